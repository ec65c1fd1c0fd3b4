/- StoreN: functions of the program walked by hand, and what they come to. -/
import Derived.Test.YtplafnaocgifoaaProg
import Derived.Below
import Derived.Deep.Draws
import Derived.Deep.AppendLies
import Derived.Maps.AppendAt
import Derived.OwnWalk
import Derived.Laws.BytesArg
import Derived.Laws.MakeOwn
import Derived.Laws.OwnMore
import Derived.Deep.OwnRows
import Derived.Tactics
import Derived.Lib.ConvBytes
import Derived.Laws.Slices
import Derived.WalkKit
import Derived.KernelRfl
import Derived.RowKit3
import Derived.Deep.LoopGhost
import Derived.Deep.QuietTactic
import Derived.BigQuiet
import Derived.WideLaws
import Derived.Deep.DeepCutAuto
import Derived.Deep.CutBlock
import Derived.Deep.RegionHeld3
import Derived.Laws.Rows
import Derived.Lib.AppendStr
import Derived.ArgAppend
import Derived.Laws.IdiomCopy
import Derived.OrdersHeld
import Derived.Laws.BitsLemmas
import Derived.RowKit
import Derived.Test.YtplafnaocgifoaaWWords
import Derived.Test.YtplafnaocgifoaaWLast
import Derived.Test.YtplafnaocgifoaaWTab
import Derived.Test.YtplafnaocgifoaaWFour
import Derived.Test.YtplafnaocgifoaaWQPut
import Derived.Test.YtplafnaocgifoaaWApart
import Derived.Test.YtplafnaocgifoaaWArr
import Derived.Test.YtplafnaocgifoaaWZeros
import Derived.Test.YtplafnaocgifoaaWFoot
import Derived.Test.YtplafnaocgifoaaWKept
import Derived.Test.YtplafnaocgifoaaWShare
import Derived.Test.YtplafnaocgifoaaWN
import Derived.Test.YtplafnaocgifoaaWFootNe
import Derived.Test.YtplafnaocgifoaaWAt
import Derived.Test.YtplafnaocgifoaaWEqStruct
import Derived.Test.YtplafnaocgifoaaWRepsOne
import Derived.Test.YtplafnaocgifoaaWInv
import Derived.Test.YtplafnaocgifoaaWInvWords
import Derived.Test.YtplafnaocgifoaaWGuard
import Derived.Test.YtplafnaocgifoaaWNEv
import Derived.Test.YtplafnaocgifoaaWMore
import Derived.Test.YtplafnaocgifoaaSt0
import Derived.Test.YtplafnaocgifoaaSane
import Derived.Deep.RegionHeld3
import Derived.IntWalk
import Derived.Outline
set_option linter.all false
namespace Go.Proofs.Ytplafnaocgifoaa.St
open Go.RowKit Go.Proofs.YtplafnaocgifoaaW.PrintWords Go.Proofs.YtplafnaocgifoaaW.PrintLast Go.Proofs.YtplafnaocgifoaaW.PrintMore
set_option linter.unusedVariables false
theorem store_Sane_some (a b c d e f : Int) : ∃ r, rushlightref11_Sane.f a b c d e f = some r := by
  have h : ∃ t, rushlightref11_sane.f a b c d = some t := by
    unfold rushlightref11_sane.f; repeat' split
    all_goals exact ⟨_, rfl⟩
  obtain ⟨t, ht⟩ := h
  unfold rushlightref11_Sane.f
  rw [ht]; simp only [Option.bind_some]
  repeat' split
  all_goals exact ⟨_, rfl⟩
set_option maxHeartbeats 8000000 in
set_option maxRecDepth 100000 in
theorem store_Few_a1 (w : World) (ab : Nat) (k o n s : Int) (is : Bool) (A5 : Option Addr) (l5 c5 : Nat) (p0 p1 p2 p3 v q0 q1 q2 q3 : Int) (vi : Bool) (hb : w.heap[ab]? = some (.cells #[.int .i64 k, .int .i64 o, .int .i64 n, .int .i64 s, .bool is, .slice A5 l5 c5, .int .i64 p0, .int .i64 p1, .int .i64 p2, .int .i64 p3, .int .u32 v, .int .i64 q0, .int .i64 q1, .int .i64 q2, .int .i64 q3, .bool vi] 46 (0, 0))) (g1 : decide (300 < n) = false) (g4 : decide (300 < (l5 : Int)) = true) (g5 : decide (300 < l5) = true) :
    Calls Try.prog 16 #[.slice (some ⟨ab, 0, none⟩) 1 1] w fun e w' => (∃ r, e = .returned (.bool r)) ∧ Below w.heap.size w w' := by
  have hu46 := Try.underlying46
  have hu24 := Try.underlying24
  have hu26 := Try.underlying26
  have n0 := blk_lt hb
  have c0 : w.cell? ⟨ab, 0, none⟩ = some (.int .i64 k) := (blk_cell hb 0).trans rfl
  have c1 : w.cell? ⟨ab, 1, none⟩ = some (.int .i64 o) := (blk_cell hb 1).trans rfl
  have c2 : w.cell? ⟨ab, 2, none⟩ = some (.int .i64 n) := (blk_cell hb 2).trans rfl
  have c3 : w.cell? ⟨ab, 3, none⟩ = some (.int .i64 s) := (blk_cell hb 3).trans rfl
  have c4 : w.cell? ⟨ab, 4, none⟩ = some (.bool is) := (blk_cell hb 4).trans rfl
  have c5 : w.cell? ⟨ab, 5, none⟩ = some (.slice A5 l5 c5) := (blk_cell hb 5).trans rfl
  have c6 : w.cell? ⟨ab, 6, none⟩ = some (.int .i64 p0) := (blk_cell hb 6).trans rfl
  have c7 : w.cell? ⟨ab, 7, none⟩ = some (.int .i64 p1) := (blk_cell hb 7).trans rfl
  have c8 : w.cell? ⟨ab, 8, none⟩ = some (.int .i64 p2) := (blk_cell hb 8).trans rfl
  have c9 : w.cell? ⟨ab, 9, none⟩ = some (.int .i64 p3) := (blk_cell hb 9).trans rfl
  have c10 : w.cell? ⟨ab, 10, none⟩ = some (.int .u32 v) := (blk_cell hb 10).trans rfl
  have c11 : w.cell? ⟨ab, 11, none⟩ = some (.int .i64 q0) := (blk_cell hb 11).trans rfl
  have c12 : w.cell? ⟨ab, 12, none⟩ = some (.int .i64 q1) := (blk_cell hb 12).trans rfl
  have c13 : w.cell? ⟨ab, 13, none⟩ = some (.int .i64 q2) := (blk_cell hb 13).trans rfl
  have c14 : w.cell? ⟨ab, 14, none⟩ = some (.int .i64 q3) := (blk_cell hb 14).trans rfl
  have c15 : w.cell? ⟨ab, 15, none⟩ = some (.bool vi) := (blk_cell hb 15).trans rfl
  clear hb
  go_enter Try.func16, Try.ntmps16
  go_wp2
  refine wp_loop_rounds 2 ?_
  rw [rounds_succ]
  go_wp2
  go_ret
  exact ⟨⟨_, rfl⟩, by repeat (first | exact Below.refl _ _ | apply below_alloc | apply pw_below_drewN)⟩
set_option maxHeartbeats 8000000 in
set_option maxRecDepth 100000 in
theorem store_Few_a2 (w : World) (ab : Nat) (k o n s : Int) (is : Bool) (A5 : Option Addr) (l5 c5 : Nat) (p0 p1 p2 p3 v q0 q1 q2 q3 : Int) (vi : Bool) (hb : w.heap[ab]? = some (.cells #[.int .i64 k, .int .i64 o, .int .i64 n, .int .i64 s, .bool is, .slice A5 l5 c5, .int .i64 p0, .int .i64 p1, .int .i64 p2, .int .i64 p3, .int .u32 v, .int .i64 q0, .int .i64 q1, .int .i64 q2, .int .i64 q3, .bool vi] 46 (0, 0))) (g1 : decide (300 < n) = false) (g4 : decide (300 < (l5 : Int)) = false) (g5 : decide (300 < l5) = false) (HS1 : Aside0 (rushlightref11_Sane.f p0 p1 p2 p3 n s = some false)) :
    Calls Try.prog 16 #[.slice (some ⟨ab, 0, none⟩) 1 1] w fun e w' => (∃ r, e = .returned (.bool r)) ∧ Below w.heap.size w w' := by
  have hu46 := Try.underlying46
  have hu24 := Try.underlying24
  have hu26 := Try.underlying26
  have n0 := blk_lt hb
  have c0 : w.cell? ⟨ab, 0, none⟩ = some (.int .i64 k) := (blk_cell hb 0).trans rfl
  have c1 : w.cell? ⟨ab, 1, none⟩ = some (.int .i64 o) := (blk_cell hb 1).trans rfl
  have c2 : w.cell? ⟨ab, 2, none⟩ = some (.int .i64 n) := (blk_cell hb 2).trans rfl
  have c3 : w.cell? ⟨ab, 3, none⟩ = some (.int .i64 s) := (blk_cell hb 3).trans rfl
  have c4 : w.cell? ⟨ab, 4, none⟩ = some (.bool is) := (blk_cell hb 4).trans rfl
  have c5 : w.cell? ⟨ab, 5, none⟩ = some (.slice A5 l5 c5) := (blk_cell hb 5).trans rfl
  have c6 : w.cell? ⟨ab, 6, none⟩ = some (.int .i64 p0) := (blk_cell hb 6).trans rfl
  have c7 : w.cell? ⟨ab, 7, none⟩ = some (.int .i64 p1) := (blk_cell hb 7).trans rfl
  have c8 : w.cell? ⟨ab, 8, none⟩ = some (.int .i64 p2) := (blk_cell hb 8).trans rfl
  have c9 : w.cell? ⟨ab, 9, none⟩ = some (.int .i64 p3) := (blk_cell hb 9).trans rfl
  have c10 : w.cell? ⟨ab, 10, none⟩ = some (.int .u32 v) := (blk_cell hb 10).trans rfl
  have c11 : w.cell? ⟨ab, 11, none⟩ = some (.int .i64 q0) := (blk_cell hb 11).trans rfl
  have c12 : w.cell? ⟨ab, 12, none⟩ = some (.int .i64 q1) := (blk_cell hb 12).trans rfl
  have c13 : w.cell? ⟨ab, 13, none⟩ = some (.int .i64 q2) := (blk_cell hb 13).trans rfl
  have c14 : w.cell? ⟨ab, 14, none⟩ = some (.int .i64 q3) := (blk_cell hb 14).trans rfl
  have c15 : w.cell? ⟨ab, 15, none⟩ = some (.bool vi) := (blk_cell hb 15).trans rfl
  clear hb
  go_enter Try.func16, Try.ntmps16
  go_wp2
  refine wp_loop_rounds 2 ?_
  rw [rounds_succ]
  go_wp2_with ((go_at_call_of 23 (Value.agg #[.int .i64 p0, .int .i64 p1, .int .i64 p2, .int .i64 p3]); (with_reducible refine (rushlightref11_Sane.calls p0 p1 p2 p3 n s false _ HS1.out).mono ?_); rintro e w1 ⟨rfl, hb1⟩; have d11 : w1.cell? ⟨w.heap.size, 11, none⟩ = some (.int .i64 q0) := (hb1.cell (by simp [World.size_alloc])).trans (by go_simp); have d12 : w1.cell? ⟨w.heap.size, 12, none⟩ = some (.int .i64 q1) := (hb1.cell (by simp [World.size_alloc])).trans (by go_simp); have d13 : w1.cell? ⟨w.heap.size, 13, none⟩ = some (.int .i64 q2) := (hb1.cell (by simp [World.size_alloc])).trans (by go_simp); have d14 : w1.cell? ⟨w.heap.size, 14, none⟩ = some (.int .i64 q3) := (hb1.cell (by simp [World.size_alloc])).trans (by go_simp); have HB := Aside0.mk (below_step (by repeat (first | exact Below.refl _ _ | apply below_alloc)) hb1 : Below w.heap.size w w1); clear hb1))
  go_ret
  exact ⟨⟨_, rfl⟩, HB.out⟩
set_option maxHeartbeats 8000000 in
set_option maxRecDepth 100000 in
theorem store_Few_a3 (w : World) (ab : Nat) (k o n s : Int) (is : Bool) (A5 : Option Addr) (l5 c5 : Nat) (p0 p1 p2 p3 v q0 q1 q2 q3 : Int) (vi : Bool) (hb : w.heap[ab]? = some (.cells #[.int .i64 k, .int .i64 o, .int .i64 n, .int .i64 s, .bool is, .slice A5 l5 c5, .int .i64 p0, .int .i64 p1, .int .i64 p2, .int .i64 p3, .int .u32 v, .int .i64 q0, .int .i64 q1, .int .i64 q2, .int .i64 q3, .bool vi] 46 (0, 0))) (g1 : decide (300 < n) = false) (g4 : decide (300 < (l5 : Int)) = false) (g5 : decide (300 < l5) = false) (HS1 : Aside0 (rushlightref11_Sane.f p0 p1 p2 p3 n s = some true)) (HS2 : Aside0 (rushlightref11_Sane.f q0 q1 q2 q3 0 0 = some false)) :
    Calls Try.prog 16 #[.slice (some ⟨ab, 0, none⟩) 1 1] w fun e w' => (∃ r, e = .returned (.bool r)) ∧ Below w.heap.size w w' := by
  have hu46 := Try.underlying46
  have hu24 := Try.underlying24
  have hu26 := Try.underlying26
  have n0 := blk_lt hb
  have c0 : w.cell? ⟨ab, 0, none⟩ = some (.int .i64 k) := (blk_cell hb 0).trans rfl
  have c1 : w.cell? ⟨ab, 1, none⟩ = some (.int .i64 o) := (blk_cell hb 1).trans rfl
  have c2 : w.cell? ⟨ab, 2, none⟩ = some (.int .i64 n) := (blk_cell hb 2).trans rfl
  have c3 : w.cell? ⟨ab, 3, none⟩ = some (.int .i64 s) := (blk_cell hb 3).trans rfl
  have c4 : w.cell? ⟨ab, 4, none⟩ = some (.bool is) := (blk_cell hb 4).trans rfl
  have c5 : w.cell? ⟨ab, 5, none⟩ = some (.slice A5 l5 c5) := (blk_cell hb 5).trans rfl
  have c6 : w.cell? ⟨ab, 6, none⟩ = some (.int .i64 p0) := (blk_cell hb 6).trans rfl
  have c7 : w.cell? ⟨ab, 7, none⟩ = some (.int .i64 p1) := (blk_cell hb 7).trans rfl
  have c8 : w.cell? ⟨ab, 8, none⟩ = some (.int .i64 p2) := (blk_cell hb 8).trans rfl
  have c9 : w.cell? ⟨ab, 9, none⟩ = some (.int .i64 p3) := (blk_cell hb 9).trans rfl
  have c10 : w.cell? ⟨ab, 10, none⟩ = some (.int .u32 v) := (blk_cell hb 10).trans rfl
  have c11 : w.cell? ⟨ab, 11, none⟩ = some (.int .i64 q0) := (blk_cell hb 11).trans rfl
  have c12 : w.cell? ⟨ab, 12, none⟩ = some (.int .i64 q1) := (blk_cell hb 12).trans rfl
  have c13 : w.cell? ⟨ab, 13, none⟩ = some (.int .i64 q2) := (blk_cell hb 13).trans rfl
  have c14 : w.cell? ⟨ab, 14, none⟩ = some (.int .i64 q3) := (blk_cell hb 14).trans rfl
  have c15 : w.cell? ⟨ab, 15, none⟩ = some (.bool vi) := (blk_cell hb 15).trans rfl
  clear hb
  go_enter Try.func16, Try.ntmps16
  go_wp2
  refine wp_loop_rounds 2 ?_
  rw [rounds_succ]
  go_wp2_with (first | (go_at_call_of 23 (Value.agg #[.int .i64 p0, .int .i64 p1, .int .i64 p2, .int .i64 p3]); (with_reducible refine (rushlightref11_Sane.calls p0 p1 p2 p3 n s true _ HS1.out).mono ?_); rintro e w1 ⟨rfl, hb1⟩; have d11 : w1.cell? ⟨w.heap.size, 11, none⟩ = some (.int .i64 q0) := (hb1.cell (by simp [World.size_alloc])).trans (by go_simp); have d12 : w1.cell? ⟨w.heap.size, 12, none⟩ = some (.int .i64 q1) := (hb1.cell (by simp [World.size_alloc])).trans (by go_simp); have d13 : w1.cell? ⟨w.heap.size, 13, none⟩ = some (.int .i64 q2) := (hb1.cell (by simp [World.size_alloc])).trans (by go_simp); have d14 : w1.cell? ⟨w.heap.size, 14, none⟩ = some (.int .i64 q3) := (hb1.cell (by simp [World.size_alloc])).trans (by go_simp); have HB := Aside0.mk (below_step (by repeat (first | exact Below.refl _ _ | apply below_alloc)) hb1 : Below w.heap.size w w1); clear hb1) | (go_at_call 23; (with_reducible refine (rushlightref11_Sane.calls q0 q1 q2 q3 0 0 false _ HS2.out).mono ?_); rintro e w2 ⟨rfl, hb2⟩; have HB2 := Aside0.mk (below_step HB.out hb2 : Below w.heap.size w w2); clear hb2))
  go_ret
  exact ⟨⟨_, rfl⟩, HB2.out⟩
set_option maxHeartbeats 8000000 in
set_option maxRecDepth 100000 in
theorem store_Few_a4 (w : World) (ab : Nat) (k o n s : Int) (is : Bool) (A5 : Option Addr) (l5 c5 : Nat) (p0 p1 p2 p3 v q0 q1 q2 q3 : Int) (vi : Bool) (hb : w.heap[ab]? = some (.cells #[.int .i64 k, .int .i64 o, .int .i64 n, .int .i64 s, .bool is, .slice A5 l5 c5, .int .i64 p0, .int .i64 p1, .int .i64 p2, .int .i64 p3, .int .u32 v, .int .i64 q0, .int .i64 q1, .int .i64 q2, .int .i64 q3, .bool vi] 46 (0, 0))) (g1 : decide (300 < n) = false) (g4 : decide (300 < (l5 : Int)) = false) (g5 : decide (300 < l5) = false) (HS1 : Aside0 (rushlightref11_Sane.f p0 p1 p2 p3 n s = some true)) (HS2 : Aside0 (rushlightref11_Sane.f q0 q1 q2 q3 0 0 = some true)) :
    Calls Try.prog 16 #[.slice (some ⟨ab, 0, none⟩) 1 1] w fun e w' => (∃ r, e = .returned (.bool r)) ∧ Below w.heap.size w w' := by
  have hu46 := Try.underlying46
  have hu24 := Try.underlying24
  have hu26 := Try.underlying26
  have n0 := blk_lt hb
  have c0 : w.cell? ⟨ab, 0, none⟩ = some (.int .i64 k) := (blk_cell hb 0).trans rfl
  have c1 : w.cell? ⟨ab, 1, none⟩ = some (.int .i64 o) := (blk_cell hb 1).trans rfl
  have c2 : w.cell? ⟨ab, 2, none⟩ = some (.int .i64 n) := (blk_cell hb 2).trans rfl
  have c3 : w.cell? ⟨ab, 3, none⟩ = some (.int .i64 s) := (blk_cell hb 3).trans rfl
  have c4 : w.cell? ⟨ab, 4, none⟩ = some (.bool is) := (blk_cell hb 4).trans rfl
  have c5 : w.cell? ⟨ab, 5, none⟩ = some (.slice A5 l5 c5) := (blk_cell hb 5).trans rfl
  have c6 : w.cell? ⟨ab, 6, none⟩ = some (.int .i64 p0) := (blk_cell hb 6).trans rfl
  have c7 : w.cell? ⟨ab, 7, none⟩ = some (.int .i64 p1) := (blk_cell hb 7).trans rfl
  have c8 : w.cell? ⟨ab, 8, none⟩ = some (.int .i64 p2) := (blk_cell hb 8).trans rfl
  have c9 : w.cell? ⟨ab, 9, none⟩ = some (.int .i64 p3) := (blk_cell hb 9).trans rfl
  have c10 : w.cell? ⟨ab, 10, none⟩ = some (.int .u32 v) := (blk_cell hb 10).trans rfl
  have c11 : w.cell? ⟨ab, 11, none⟩ = some (.int .i64 q0) := (blk_cell hb 11).trans rfl
  have c12 : w.cell? ⟨ab, 12, none⟩ = some (.int .i64 q1) := (blk_cell hb 12).trans rfl
  have c13 : w.cell? ⟨ab, 13, none⟩ = some (.int .i64 q2) := (blk_cell hb 13).trans rfl
  have c14 : w.cell? ⟨ab, 14, none⟩ = some (.int .i64 q3) := (blk_cell hb 14).trans rfl
  have c15 : w.cell? ⟨ab, 15, none⟩ = some (.bool vi) := (blk_cell hb 15).trans rfl
  clear hb
  go_enter Try.func16, Try.ntmps16
  go_wp2
  refine wp_loop_rounds 2 ?_
  rw [rounds_succ]
  go_wp2_with (first | (go_at_call_of 23 (Value.agg #[.int .i64 p0, .int .i64 p1, .int .i64 p2, .int .i64 p3]); (with_reducible refine (rushlightref11_Sane.calls p0 p1 p2 p3 n s true _ HS1.out).mono ?_); rintro e w1 ⟨rfl, hb1⟩; have d11 : w1.cell? ⟨w.heap.size, 11, none⟩ = some (.int .i64 q0) := (hb1.cell (by simp [World.size_alloc])).trans (by go_simp); have d12 : w1.cell? ⟨w.heap.size, 12, none⟩ = some (.int .i64 q1) := (hb1.cell (by simp [World.size_alloc])).trans (by go_simp); have d13 : w1.cell? ⟨w.heap.size, 13, none⟩ = some (.int .i64 q2) := (hb1.cell (by simp [World.size_alloc])).trans (by go_simp); have d14 : w1.cell? ⟨w.heap.size, 14, none⟩ = some (.int .i64 q3) := (hb1.cell (by simp [World.size_alloc])).trans (by go_simp); have HB := Aside0.mk (below_step (by repeat (first | exact Below.refl _ _ | apply below_alloc)) hb1 : Below w.heap.size w w1); clear hb1) | (go_at_call 23; (with_reducible refine (rushlightref11_Sane.calls q0 q1 q2 q3 0 0 true _ HS2.out).mono ?_); rintro e w2 ⟨rfl, hb2⟩; have HB2 := Aside0.mk (below_step HB.out hb2 : Below w.heap.size w w2); clear hb2))
  rw [rounds_succ]
  go_wp2
  go_ret
  exact ⟨⟨_, rfl⟩, HB2.out⟩
set_option maxHeartbeats 8000000 in
set_option maxRecDepth 100000 in
theorem store_Few_b1 (w : World) (ab : Nat) (k o n s : Int) (is : Bool) (A5 : Option Addr) (l5 c5 : Nat) (p0 p1 p2 p3 v q0 q1 q2 q3 : Int) (vi : Bool) (hb : w.heap[ab]? = some (.cells #[.int .i64 k, .int .i64 o, .int .i64 n, .int .i64 s, .bool is, .slice A5 l5 c5, .int .i64 p0, .int .i64 p1, .int .i64 p2, .int .i64 p3, .int .u32 v, .int .i64 q0, .int .i64 q1, .int .i64 q2, .int .i64 q3, .bool vi] 46 (0, 0))) (g1 : decide (300 < n) = true) (g2 : decide (n ≤ 32768) = false) (g4 : decide (300 < (l5 : Int)) = true) (g5 : decide (300 < l5) = true) :
    Calls Try.prog 16 #[.slice (some ⟨ab, 0, none⟩) 1 1] w fun e w' => (∃ r, e = .returned (.bool r)) ∧ Below w.heap.size w w' := by
  have hu46 := Try.underlying46
  have hu24 := Try.underlying24
  have hu26 := Try.underlying26
  have n0 := blk_lt hb
  have c0 : w.cell? ⟨ab, 0, none⟩ = some (.int .i64 k) := (blk_cell hb 0).trans rfl
  have c1 : w.cell? ⟨ab, 1, none⟩ = some (.int .i64 o) := (blk_cell hb 1).trans rfl
  have c2 : w.cell? ⟨ab, 2, none⟩ = some (.int .i64 n) := (blk_cell hb 2).trans rfl
  have c3 : w.cell? ⟨ab, 3, none⟩ = some (.int .i64 s) := (blk_cell hb 3).trans rfl
  have c4 : w.cell? ⟨ab, 4, none⟩ = some (.bool is) := (blk_cell hb 4).trans rfl
  have c5 : w.cell? ⟨ab, 5, none⟩ = some (.slice A5 l5 c5) := (blk_cell hb 5).trans rfl
  have c6 : w.cell? ⟨ab, 6, none⟩ = some (.int .i64 p0) := (blk_cell hb 6).trans rfl
  have c7 : w.cell? ⟨ab, 7, none⟩ = some (.int .i64 p1) := (blk_cell hb 7).trans rfl
  have c8 : w.cell? ⟨ab, 8, none⟩ = some (.int .i64 p2) := (blk_cell hb 8).trans rfl
  have c9 : w.cell? ⟨ab, 9, none⟩ = some (.int .i64 p3) := (blk_cell hb 9).trans rfl
  have c10 : w.cell? ⟨ab, 10, none⟩ = some (.int .u32 v) := (blk_cell hb 10).trans rfl
  have c11 : w.cell? ⟨ab, 11, none⟩ = some (.int .i64 q0) := (blk_cell hb 11).trans rfl
  have c12 : w.cell? ⟨ab, 12, none⟩ = some (.int .i64 q1) := (blk_cell hb 12).trans rfl
  have c13 : w.cell? ⟨ab, 13, none⟩ = some (.int .i64 q2) := (blk_cell hb 13).trans rfl
  have c14 : w.cell? ⟨ab, 14, none⟩ = some (.int .i64 q3) := (blk_cell hb 14).trans rfl
  have c15 : w.cell? ⟨ab, 15, none⟩ = some (.bool vi) := (blk_cell hb 15).trans rfl
  clear hb
  go_enter Try.func16, Try.ntmps16
  go_wp2
  refine wp_loop_rounds 2 ?_
  rw [rounds_succ]
  go_wp2
  go_ret
  exact ⟨⟨_, rfl⟩, by repeat (first | exact Below.refl _ _ | apply below_alloc | apply pw_below_drewN)⟩
set_option maxHeartbeats 8000000 in
set_option maxRecDepth 100000 in
theorem store_Few_b2 (w : World) (ab : Nat) (k o n s : Int) (is : Bool) (A5 : Option Addr) (l5 c5 : Nat) (p0 p1 p2 p3 v q0 q1 q2 q3 : Int) (vi : Bool) (hb : w.heap[ab]? = some (.cells #[.int .i64 k, .int .i64 o, .int .i64 n, .int .i64 s, .bool is, .slice A5 l5 c5, .int .i64 p0, .int .i64 p1, .int .i64 p2, .int .i64 p3, .int .u32 v, .int .i64 q0, .int .i64 q1, .int .i64 q2, .int .i64 q3, .bool vi] 46 (0, 0))) (g1 : decide (300 < n) = true) (g2 : decide (n ≤ 32768) = false) (g4 : decide (300 < (l5 : Int)) = false) (g5 : decide (300 < l5) = false) (HS1 : Aside0 (rushlightref11_Sane.f p0 p1 p2 p3 n s = some false)) :
    Calls Try.prog 16 #[.slice (some ⟨ab, 0, none⟩) 1 1] w fun e w' => (∃ r, e = .returned (.bool r)) ∧ Below w.heap.size w w' := by
  have hu46 := Try.underlying46
  have hu24 := Try.underlying24
  have hu26 := Try.underlying26
  have n0 := blk_lt hb
  have c0 : w.cell? ⟨ab, 0, none⟩ = some (.int .i64 k) := (blk_cell hb 0).trans rfl
  have c1 : w.cell? ⟨ab, 1, none⟩ = some (.int .i64 o) := (blk_cell hb 1).trans rfl
  have c2 : w.cell? ⟨ab, 2, none⟩ = some (.int .i64 n) := (blk_cell hb 2).trans rfl
  have c3 : w.cell? ⟨ab, 3, none⟩ = some (.int .i64 s) := (blk_cell hb 3).trans rfl
  have c4 : w.cell? ⟨ab, 4, none⟩ = some (.bool is) := (blk_cell hb 4).trans rfl
  have c5 : w.cell? ⟨ab, 5, none⟩ = some (.slice A5 l5 c5) := (blk_cell hb 5).trans rfl
  have c6 : w.cell? ⟨ab, 6, none⟩ = some (.int .i64 p0) := (blk_cell hb 6).trans rfl
  have c7 : w.cell? ⟨ab, 7, none⟩ = some (.int .i64 p1) := (blk_cell hb 7).trans rfl
  have c8 : w.cell? ⟨ab, 8, none⟩ = some (.int .i64 p2) := (blk_cell hb 8).trans rfl
  have c9 : w.cell? ⟨ab, 9, none⟩ = some (.int .i64 p3) := (blk_cell hb 9).trans rfl
  have c10 : w.cell? ⟨ab, 10, none⟩ = some (.int .u32 v) := (blk_cell hb 10).trans rfl
  have c11 : w.cell? ⟨ab, 11, none⟩ = some (.int .i64 q0) := (blk_cell hb 11).trans rfl
  have c12 : w.cell? ⟨ab, 12, none⟩ = some (.int .i64 q1) := (blk_cell hb 12).trans rfl
  have c13 : w.cell? ⟨ab, 13, none⟩ = some (.int .i64 q2) := (blk_cell hb 13).trans rfl
  have c14 : w.cell? ⟨ab, 14, none⟩ = some (.int .i64 q3) := (blk_cell hb 14).trans rfl
  have c15 : w.cell? ⟨ab, 15, none⟩ = some (.bool vi) := (blk_cell hb 15).trans rfl
  clear hb
  go_enter Try.func16, Try.ntmps16
  go_wp2
  refine wp_loop_rounds 2 ?_
  rw [rounds_succ]
  go_wp2_with ((go_at_call_of 23 (Value.agg #[.int .i64 p0, .int .i64 p1, .int .i64 p2, .int .i64 p3]); (with_reducible refine (rushlightref11_Sane.calls p0 p1 p2 p3 n s false _ HS1.out).mono ?_); rintro e w1 ⟨rfl, hb1⟩; have d11 : w1.cell? ⟨w.heap.size, 11, none⟩ = some (.int .i64 q0) := (hb1.cell (by simp [World.size_alloc])).trans (by go_simp); have d12 : w1.cell? ⟨w.heap.size, 12, none⟩ = some (.int .i64 q1) := (hb1.cell (by simp [World.size_alloc])).trans (by go_simp); have d13 : w1.cell? ⟨w.heap.size, 13, none⟩ = some (.int .i64 q2) := (hb1.cell (by simp [World.size_alloc])).trans (by go_simp); have d14 : w1.cell? ⟨w.heap.size, 14, none⟩ = some (.int .i64 q3) := (hb1.cell (by simp [World.size_alloc])).trans (by go_simp); have HB := Aside0.mk (below_step (by repeat (first | exact Below.refl _ _ | apply below_alloc)) hb1 : Below w.heap.size w w1); clear hb1))
  go_ret
  exact ⟨⟨_, rfl⟩, HB.out⟩
set_option maxHeartbeats 8000000 in
set_option maxRecDepth 100000 in
theorem store_Few_b3 (w : World) (ab : Nat) (k o n s : Int) (is : Bool) (A5 : Option Addr) (l5 c5 : Nat) (p0 p1 p2 p3 v q0 q1 q2 q3 : Int) (vi : Bool) (hb : w.heap[ab]? = some (.cells #[.int .i64 k, .int .i64 o, .int .i64 n, .int .i64 s, .bool is, .slice A5 l5 c5, .int .i64 p0, .int .i64 p1, .int .i64 p2, .int .i64 p3, .int .u32 v, .int .i64 q0, .int .i64 q1, .int .i64 q2, .int .i64 q3, .bool vi] 46 (0, 0))) (g1 : decide (300 < n) = true) (g2 : decide (n ≤ 32768) = false) (g4 : decide (300 < (l5 : Int)) = false) (g5 : decide (300 < l5) = false) (HS1 : Aside0 (rushlightref11_Sane.f p0 p1 p2 p3 n s = some true)) (HS2 : Aside0 (rushlightref11_Sane.f q0 q1 q2 q3 0 0 = some false)) :
    Calls Try.prog 16 #[.slice (some ⟨ab, 0, none⟩) 1 1] w fun e w' => (∃ r, e = .returned (.bool r)) ∧ Below w.heap.size w w' := by
  have hu46 := Try.underlying46
  have hu24 := Try.underlying24
  have hu26 := Try.underlying26
  have n0 := blk_lt hb
  have c0 : w.cell? ⟨ab, 0, none⟩ = some (.int .i64 k) := (blk_cell hb 0).trans rfl
  have c1 : w.cell? ⟨ab, 1, none⟩ = some (.int .i64 o) := (blk_cell hb 1).trans rfl
  have c2 : w.cell? ⟨ab, 2, none⟩ = some (.int .i64 n) := (blk_cell hb 2).trans rfl
  have c3 : w.cell? ⟨ab, 3, none⟩ = some (.int .i64 s) := (blk_cell hb 3).trans rfl
  have c4 : w.cell? ⟨ab, 4, none⟩ = some (.bool is) := (blk_cell hb 4).trans rfl
  have c5 : w.cell? ⟨ab, 5, none⟩ = some (.slice A5 l5 c5) := (blk_cell hb 5).trans rfl
  have c6 : w.cell? ⟨ab, 6, none⟩ = some (.int .i64 p0) := (blk_cell hb 6).trans rfl
  have c7 : w.cell? ⟨ab, 7, none⟩ = some (.int .i64 p1) := (blk_cell hb 7).trans rfl
  have c8 : w.cell? ⟨ab, 8, none⟩ = some (.int .i64 p2) := (blk_cell hb 8).trans rfl
  have c9 : w.cell? ⟨ab, 9, none⟩ = some (.int .i64 p3) := (blk_cell hb 9).trans rfl
  have c10 : w.cell? ⟨ab, 10, none⟩ = some (.int .u32 v) := (blk_cell hb 10).trans rfl
  have c11 : w.cell? ⟨ab, 11, none⟩ = some (.int .i64 q0) := (blk_cell hb 11).trans rfl
  have c12 : w.cell? ⟨ab, 12, none⟩ = some (.int .i64 q1) := (blk_cell hb 12).trans rfl
  have c13 : w.cell? ⟨ab, 13, none⟩ = some (.int .i64 q2) := (blk_cell hb 13).trans rfl
  have c14 : w.cell? ⟨ab, 14, none⟩ = some (.int .i64 q3) := (blk_cell hb 14).trans rfl
  have c15 : w.cell? ⟨ab, 15, none⟩ = some (.bool vi) := (blk_cell hb 15).trans rfl
  clear hb
  go_enter Try.func16, Try.ntmps16
  go_wp2
  refine wp_loop_rounds 2 ?_
  rw [rounds_succ]
  go_wp2_with (first | (go_at_call_of 23 (Value.agg #[.int .i64 p0, .int .i64 p1, .int .i64 p2, .int .i64 p3]); (with_reducible refine (rushlightref11_Sane.calls p0 p1 p2 p3 n s true _ HS1.out).mono ?_); rintro e w1 ⟨rfl, hb1⟩; have d11 : w1.cell? ⟨w.heap.size, 11, none⟩ = some (.int .i64 q0) := (hb1.cell (by simp [World.size_alloc])).trans (by go_simp); have d12 : w1.cell? ⟨w.heap.size, 12, none⟩ = some (.int .i64 q1) := (hb1.cell (by simp [World.size_alloc])).trans (by go_simp); have d13 : w1.cell? ⟨w.heap.size, 13, none⟩ = some (.int .i64 q2) := (hb1.cell (by simp [World.size_alloc])).trans (by go_simp); have d14 : w1.cell? ⟨w.heap.size, 14, none⟩ = some (.int .i64 q3) := (hb1.cell (by simp [World.size_alloc])).trans (by go_simp); have HB := Aside0.mk (below_step (by repeat (first | exact Below.refl _ _ | apply below_alloc)) hb1 : Below w.heap.size w w1); clear hb1) | (go_at_call 23; (with_reducible refine (rushlightref11_Sane.calls q0 q1 q2 q3 0 0 false _ HS2.out).mono ?_); rintro e w2 ⟨rfl, hb2⟩; have HB2 := Aside0.mk (below_step HB.out hb2 : Below w.heap.size w w2); clear hb2))
  go_ret
  exact ⟨⟨_, rfl⟩, HB2.out⟩
set_option maxHeartbeats 8000000 in
set_option maxRecDepth 100000 in
theorem store_Few_b4 (w : World) (ab : Nat) (k o n s : Int) (is : Bool) (A5 : Option Addr) (l5 c5 : Nat) (p0 p1 p2 p3 v q0 q1 q2 q3 : Int) (vi : Bool) (hb : w.heap[ab]? = some (.cells #[.int .i64 k, .int .i64 o, .int .i64 n, .int .i64 s, .bool is, .slice A5 l5 c5, .int .i64 p0, .int .i64 p1, .int .i64 p2, .int .i64 p3, .int .u32 v, .int .i64 q0, .int .i64 q1, .int .i64 q2, .int .i64 q3, .bool vi] 46 (0, 0))) (g1 : decide (300 < n) = true) (g2 : decide (n ≤ 32768) = false) (g4 : decide (300 < (l5 : Int)) = false) (g5 : decide (300 < l5) = false) (HS1 : Aside0 (rushlightref11_Sane.f p0 p1 p2 p3 n s = some true)) (HS2 : Aside0 (rushlightref11_Sane.f q0 q1 q2 q3 0 0 = some true)) :
    Calls Try.prog 16 #[.slice (some ⟨ab, 0, none⟩) 1 1] w fun e w' => (∃ r, e = .returned (.bool r)) ∧ Below w.heap.size w w' := by
  have hu46 := Try.underlying46
  have hu24 := Try.underlying24
  have hu26 := Try.underlying26
  have n0 := blk_lt hb
  have c0 : w.cell? ⟨ab, 0, none⟩ = some (.int .i64 k) := (blk_cell hb 0).trans rfl
  have c1 : w.cell? ⟨ab, 1, none⟩ = some (.int .i64 o) := (blk_cell hb 1).trans rfl
  have c2 : w.cell? ⟨ab, 2, none⟩ = some (.int .i64 n) := (blk_cell hb 2).trans rfl
  have c3 : w.cell? ⟨ab, 3, none⟩ = some (.int .i64 s) := (blk_cell hb 3).trans rfl
  have c4 : w.cell? ⟨ab, 4, none⟩ = some (.bool is) := (blk_cell hb 4).trans rfl
  have c5 : w.cell? ⟨ab, 5, none⟩ = some (.slice A5 l5 c5) := (blk_cell hb 5).trans rfl
  have c6 : w.cell? ⟨ab, 6, none⟩ = some (.int .i64 p0) := (blk_cell hb 6).trans rfl
  have c7 : w.cell? ⟨ab, 7, none⟩ = some (.int .i64 p1) := (blk_cell hb 7).trans rfl
  have c8 : w.cell? ⟨ab, 8, none⟩ = some (.int .i64 p2) := (blk_cell hb 8).trans rfl
  have c9 : w.cell? ⟨ab, 9, none⟩ = some (.int .i64 p3) := (blk_cell hb 9).trans rfl
  have c10 : w.cell? ⟨ab, 10, none⟩ = some (.int .u32 v) := (blk_cell hb 10).trans rfl
  have c11 : w.cell? ⟨ab, 11, none⟩ = some (.int .i64 q0) := (blk_cell hb 11).trans rfl
  have c12 : w.cell? ⟨ab, 12, none⟩ = some (.int .i64 q1) := (blk_cell hb 12).trans rfl
  have c13 : w.cell? ⟨ab, 13, none⟩ = some (.int .i64 q2) := (blk_cell hb 13).trans rfl
  have c14 : w.cell? ⟨ab, 14, none⟩ = some (.int .i64 q3) := (blk_cell hb 14).trans rfl
  have c15 : w.cell? ⟨ab, 15, none⟩ = some (.bool vi) := (blk_cell hb 15).trans rfl
  clear hb
  go_enter Try.func16, Try.ntmps16
  go_wp2
  refine wp_loop_rounds 2 ?_
  rw [rounds_succ]
  go_wp2_with (first | (go_at_call_of 23 (Value.agg #[.int .i64 p0, .int .i64 p1, .int .i64 p2, .int .i64 p3]); (with_reducible refine (rushlightref11_Sane.calls p0 p1 p2 p3 n s true _ HS1.out).mono ?_); rintro e w1 ⟨rfl, hb1⟩; have d11 : w1.cell? ⟨w.heap.size, 11, none⟩ = some (.int .i64 q0) := (hb1.cell (by simp [World.size_alloc])).trans (by go_simp); have d12 : w1.cell? ⟨w.heap.size, 12, none⟩ = some (.int .i64 q1) := (hb1.cell (by simp [World.size_alloc])).trans (by go_simp); have d13 : w1.cell? ⟨w.heap.size, 13, none⟩ = some (.int .i64 q2) := (hb1.cell (by simp [World.size_alloc])).trans (by go_simp); have d14 : w1.cell? ⟨w.heap.size, 14, none⟩ = some (.int .i64 q3) := (hb1.cell (by simp [World.size_alloc])).trans (by go_simp); have HB := Aside0.mk (below_step (by repeat (first | exact Below.refl _ _ | apply below_alloc)) hb1 : Below w.heap.size w w1); clear hb1) | (go_at_call 23; (with_reducible refine (rushlightref11_Sane.calls q0 q1 q2 q3 0 0 true _ HS2.out).mono ?_); rintro e w2 ⟨rfl, hb2⟩; have HB2 := Aside0.mk (below_step HB.out hb2 : Below w.heap.size w w2); clear hb2))
  rw [rounds_succ]
  go_wp2
  go_ret
  exact ⟨⟨_, rfl⟩, HB2.out⟩
set_option maxHeartbeats 8000000 in
set_option maxRecDepth 100000 in
theorem store_Few_c1 (w : World) (ab : Nat) (k o n s : Int) (is : Bool) (A5 : Option Addr) (l5 c5 : Nat) (p0 p1 p2 p3 v q0 q1 q2 q3 : Int) (vi : Bool) (hb : w.heap[ab]? = some (.cells #[.int .i64 k, .int .i64 o, .int .i64 n, .int .i64 s, .bool is, .slice A5 l5 c5, .int .i64 p0, .int .i64 p1, .int .i64 p2, .int .i64 p3, .int .u32 v, .int .i64 q0, .int .i64 q1, .int .i64 q2, .int .i64 q3, .bool vi] 46 (0, 0))) (g1 : decide (300 < n) = true) (g2 : decide (n ≤ 32768) = true) (g3 : (Int.tmod k 100 == 0) = false) (g4 : decide (300 < (l5 : Int)) = true) (g5 : decide (300 < l5) = true) :
    Calls Try.prog 16 #[.slice (some ⟨ab, 0, none⟩) 1 1] w fun e w' => (∃ r, e = .returned (.bool r)) ∧ Below w.heap.size w w' := by
  have hu46 := Try.underlying46
  have hu24 := Try.underlying24
  have hu26 := Try.underlying26
  have n0 := blk_lt hb
  have c0 : w.cell? ⟨ab, 0, none⟩ = some (.int .i64 k) := (blk_cell hb 0).trans rfl
  have c1 : w.cell? ⟨ab, 1, none⟩ = some (.int .i64 o) := (blk_cell hb 1).trans rfl
  have c2 : w.cell? ⟨ab, 2, none⟩ = some (.int .i64 n) := (blk_cell hb 2).trans rfl
  have c3 : w.cell? ⟨ab, 3, none⟩ = some (.int .i64 s) := (blk_cell hb 3).trans rfl
  have c4 : w.cell? ⟨ab, 4, none⟩ = some (.bool is) := (blk_cell hb 4).trans rfl
  have c5 : w.cell? ⟨ab, 5, none⟩ = some (.slice A5 l5 c5) := (blk_cell hb 5).trans rfl
  have c6 : w.cell? ⟨ab, 6, none⟩ = some (.int .i64 p0) := (blk_cell hb 6).trans rfl
  have c7 : w.cell? ⟨ab, 7, none⟩ = some (.int .i64 p1) := (blk_cell hb 7).trans rfl
  have c8 : w.cell? ⟨ab, 8, none⟩ = some (.int .i64 p2) := (blk_cell hb 8).trans rfl
  have c9 : w.cell? ⟨ab, 9, none⟩ = some (.int .i64 p3) := (blk_cell hb 9).trans rfl
  have c10 : w.cell? ⟨ab, 10, none⟩ = some (.int .u32 v) := (blk_cell hb 10).trans rfl
  have c11 : w.cell? ⟨ab, 11, none⟩ = some (.int .i64 q0) := (blk_cell hb 11).trans rfl
  have c12 : w.cell? ⟨ab, 12, none⟩ = some (.int .i64 q1) := (blk_cell hb 12).trans rfl
  have c13 : w.cell? ⟨ab, 13, none⟩ = some (.int .i64 q2) := (blk_cell hb 13).trans rfl
  have c14 : w.cell? ⟨ab, 14, none⟩ = some (.int .i64 q3) := (blk_cell hb 14).trans rfl
  have c15 : w.cell? ⟨ab, 15, none⟩ = some (.bool vi) := (blk_cell hb 15).trans rfl
  clear hb
  go_enter Try.func16, Try.ntmps16
  go_wp2
  refine wp_loop_rounds 2 ?_
  rw [rounds_succ]
  go_wp2
  go_ret
  exact ⟨⟨_, rfl⟩, by repeat (first | exact Below.refl _ _ | apply below_alloc | apply pw_below_drewN)⟩
set_option maxHeartbeats 8000000 in
set_option maxRecDepth 100000 in
theorem store_Few_c2 (w : World) (ab : Nat) (k o n s : Int) (is : Bool) (A5 : Option Addr) (l5 c5 : Nat) (p0 p1 p2 p3 v q0 q1 q2 q3 : Int) (vi : Bool) (hb : w.heap[ab]? = some (.cells #[.int .i64 k, .int .i64 o, .int .i64 n, .int .i64 s, .bool is, .slice A5 l5 c5, .int .i64 p0, .int .i64 p1, .int .i64 p2, .int .i64 p3, .int .u32 v, .int .i64 q0, .int .i64 q1, .int .i64 q2, .int .i64 q3, .bool vi] 46 (0, 0))) (g1 : decide (300 < n) = true) (g2 : decide (n ≤ 32768) = true) (g3 : (Int.tmod k 100 == 0) = false) (g4 : decide (300 < (l5 : Int)) = false) (g5 : decide (300 < l5) = false) (HS1 : Aside0 (rushlightref11_Sane.f p0 p1 p2 p3 n s = some false)) :
    Calls Try.prog 16 #[.slice (some ⟨ab, 0, none⟩) 1 1] w fun e w' => (∃ r, e = .returned (.bool r)) ∧ Below w.heap.size w w' := by
  have hu46 := Try.underlying46
  have hu24 := Try.underlying24
  have hu26 := Try.underlying26
  have n0 := blk_lt hb
  have c0 : w.cell? ⟨ab, 0, none⟩ = some (.int .i64 k) := (blk_cell hb 0).trans rfl
  have c1 : w.cell? ⟨ab, 1, none⟩ = some (.int .i64 o) := (blk_cell hb 1).trans rfl
  have c2 : w.cell? ⟨ab, 2, none⟩ = some (.int .i64 n) := (blk_cell hb 2).trans rfl
  have c3 : w.cell? ⟨ab, 3, none⟩ = some (.int .i64 s) := (blk_cell hb 3).trans rfl
  have c4 : w.cell? ⟨ab, 4, none⟩ = some (.bool is) := (blk_cell hb 4).trans rfl
  have c5 : w.cell? ⟨ab, 5, none⟩ = some (.slice A5 l5 c5) := (blk_cell hb 5).trans rfl
  have c6 : w.cell? ⟨ab, 6, none⟩ = some (.int .i64 p0) := (blk_cell hb 6).trans rfl
  have c7 : w.cell? ⟨ab, 7, none⟩ = some (.int .i64 p1) := (blk_cell hb 7).trans rfl
  have c8 : w.cell? ⟨ab, 8, none⟩ = some (.int .i64 p2) := (blk_cell hb 8).trans rfl
  have c9 : w.cell? ⟨ab, 9, none⟩ = some (.int .i64 p3) := (blk_cell hb 9).trans rfl
  have c10 : w.cell? ⟨ab, 10, none⟩ = some (.int .u32 v) := (blk_cell hb 10).trans rfl
  have c11 : w.cell? ⟨ab, 11, none⟩ = some (.int .i64 q0) := (blk_cell hb 11).trans rfl
  have c12 : w.cell? ⟨ab, 12, none⟩ = some (.int .i64 q1) := (blk_cell hb 12).trans rfl
  have c13 : w.cell? ⟨ab, 13, none⟩ = some (.int .i64 q2) := (blk_cell hb 13).trans rfl
  have c14 : w.cell? ⟨ab, 14, none⟩ = some (.int .i64 q3) := (blk_cell hb 14).trans rfl
  have c15 : w.cell? ⟨ab, 15, none⟩ = some (.bool vi) := (blk_cell hb 15).trans rfl
  clear hb
  go_enter Try.func16, Try.ntmps16
  go_wp2
  refine wp_loop_rounds 2 ?_
  rw [rounds_succ]
  go_wp2_with ((go_at_call_of 23 (Value.agg #[.int .i64 p0, .int .i64 p1, .int .i64 p2, .int .i64 p3]); (with_reducible refine (rushlightref11_Sane.calls p0 p1 p2 p3 n s false _ HS1.out).mono ?_); rintro e w1 ⟨rfl, hb1⟩; have d11 : w1.cell? ⟨w.heap.size, 11, none⟩ = some (.int .i64 q0) := (hb1.cell (by simp [World.size_alloc])).trans (by go_simp); have d12 : w1.cell? ⟨w.heap.size, 12, none⟩ = some (.int .i64 q1) := (hb1.cell (by simp [World.size_alloc])).trans (by go_simp); have d13 : w1.cell? ⟨w.heap.size, 13, none⟩ = some (.int .i64 q2) := (hb1.cell (by simp [World.size_alloc])).trans (by go_simp); have d14 : w1.cell? ⟨w.heap.size, 14, none⟩ = some (.int .i64 q3) := (hb1.cell (by simp [World.size_alloc])).trans (by go_simp); have HB := Aside0.mk (below_step (by repeat (first | exact Below.refl _ _ | apply below_alloc)) hb1 : Below w.heap.size w w1); clear hb1))
  go_ret
  exact ⟨⟨_, rfl⟩, HB.out⟩
set_option maxHeartbeats 8000000 in
set_option maxRecDepth 100000 in
theorem store_Few_c3 (w : World) (ab : Nat) (k o n s : Int) (is : Bool) (A5 : Option Addr) (l5 c5 : Nat) (p0 p1 p2 p3 v q0 q1 q2 q3 : Int) (vi : Bool) (hb : w.heap[ab]? = some (.cells #[.int .i64 k, .int .i64 o, .int .i64 n, .int .i64 s, .bool is, .slice A5 l5 c5, .int .i64 p0, .int .i64 p1, .int .i64 p2, .int .i64 p3, .int .u32 v, .int .i64 q0, .int .i64 q1, .int .i64 q2, .int .i64 q3, .bool vi] 46 (0, 0))) (g1 : decide (300 < n) = true) (g2 : decide (n ≤ 32768) = true) (g3 : (Int.tmod k 100 == 0) = false) (g4 : decide (300 < (l5 : Int)) = false) (g5 : decide (300 < l5) = false) (HS1 : Aside0 (rushlightref11_Sane.f p0 p1 p2 p3 n s = some true)) (HS2 : Aside0 (rushlightref11_Sane.f q0 q1 q2 q3 0 0 = some false)) :
    Calls Try.prog 16 #[.slice (some ⟨ab, 0, none⟩) 1 1] w fun e w' => (∃ r, e = .returned (.bool r)) ∧ Below w.heap.size w w' := by
  have hu46 := Try.underlying46
  have hu24 := Try.underlying24
  have hu26 := Try.underlying26
  have n0 := blk_lt hb
  have c0 : w.cell? ⟨ab, 0, none⟩ = some (.int .i64 k) := (blk_cell hb 0).trans rfl
  have c1 : w.cell? ⟨ab, 1, none⟩ = some (.int .i64 o) := (blk_cell hb 1).trans rfl
  have c2 : w.cell? ⟨ab, 2, none⟩ = some (.int .i64 n) := (blk_cell hb 2).trans rfl
  have c3 : w.cell? ⟨ab, 3, none⟩ = some (.int .i64 s) := (blk_cell hb 3).trans rfl
  have c4 : w.cell? ⟨ab, 4, none⟩ = some (.bool is) := (blk_cell hb 4).trans rfl
  have c5 : w.cell? ⟨ab, 5, none⟩ = some (.slice A5 l5 c5) := (blk_cell hb 5).trans rfl
  have c6 : w.cell? ⟨ab, 6, none⟩ = some (.int .i64 p0) := (blk_cell hb 6).trans rfl
  have c7 : w.cell? ⟨ab, 7, none⟩ = some (.int .i64 p1) := (blk_cell hb 7).trans rfl
  have c8 : w.cell? ⟨ab, 8, none⟩ = some (.int .i64 p2) := (blk_cell hb 8).trans rfl
  have c9 : w.cell? ⟨ab, 9, none⟩ = some (.int .i64 p3) := (blk_cell hb 9).trans rfl
  have c10 : w.cell? ⟨ab, 10, none⟩ = some (.int .u32 v) := (blk_cell hb 10).trans rfl
  have c11 : w.cell? ⟨ab, 11, none⟩ = some (.int .i64 q0) := (blk_cell hb 11).trans rfl
  have c12 : w.cell? ⟨ab, 12, none⟩ = some (.int .i64 q1) := (blk_cell hb 12).trans rfl
  have c13 : w.cell? ⟨ab, 13, none⟩ = some (.int .i64 q2) := (blk_cell hb 13).trans rfl
  have c14 : w.cell? ⟨ab, 14, none⟩ = some (.int .i64 q3) := (blk_cell hb 14).trans rfl
  have c15 : w.cell? ⟨ab, 15, none⟩ = some (.bool vi) := (blk_cell hb 15).trans rfl
  clear hb
  go_enter Try.func16, Try.ntmps16
  go_wp2
  refine wp_loop_rounds 2 ?_
  rw [rounds_succ]
  go_wp2_with (first | (go_at_call_of 23 (Value.agg #[.int .i64 p0, .int .i64 p1, .int .i64 p2, .int .i64 p3]); (with_reducible refine (rushlightref11_Sane.calls p0 p1 p2 p3 n s true _ HS1.out).mono ?_); rintro e w1 ⟨rfl, hb1⟩; have d11 : w1.cell? ⟨w.heap.size, 11, none⟩ = some (.int .i64 q0) := (hb1.cell (by simp [World.size_alloc])).trans (by go_simp); have d12 : w1.cell? ⟨w.heap.size, 12, none⟩ = some (.int .i64 q1) := (hb1.cell (by simp [World.size_alloc])).trans (by go_simp); have d13 : w1.cell? ⟨w.heap.size, 13, none⟩ = some (.int .i64 q2) := (hb1.cell (by simp [World.size_alloc])).trans (by go_simp); have d14 : w1.cell? ⟨w.heap.size, 14, none⟩ = some (.int .i64 q3) := (hb1.cell (by simp [World.size_alloc])).trans (by go_simp); have HB := Aside0.mk (below_step (by repeat (first | exact Below.refl _ _ | apply below_alloc)) hb1 : Below w.heap.size w w1); clear hb1) | (go_at_call 23; (with_reducible refine (rushlightref11_Sane.calls q0 q1 q2 q3 0 0 false _ HS2.out).mono ?_); rintro e w2 ⟨rfl, hb2⟩; have HB2 := Aside0.mk (below_step HB.out hb2 : Below w.heap.size w w2); clear hb2))
  go_ret
  exact ⟨⟨_, rfl⟩, HB2.out⟩
set_option maxHeartbeats 8000000 in
set_option maxRecDepth 100000 in
theorem store_Few_c4 (w : World) (ab : Nat) (k o n s : Int) (is : Bool) (A5 : Option Addr) (l5 c5 : Nat) (p0 p1 p2 p3 v q0 q1 q2 q3 : Int) (vi : Bool) (hb : w.heap[ab]? = some (.cells #[.int .i64 k, .int .i64 o, .int .i64 n, .int .i64 s, .bool is, .slice A5 l5 c5, .int .i64 p0, .int .i64 p1, .int .i64 p2, .int .i64 p3, .int .u32 v, .int .i64 q0, .int .i64 q1, .int .i64 q2, .int .i64 q3, .bool vi] 46 (0, 0))) (g1 : decide (300 < n) = true) (g2 : decide (n ≤ 32768) = true) (g3 : (Int.tmod k 100 == 0) = false) (g4 : decide (300 < (l5 : Int)) = false) (g5 : decide (300 < l5) = false) (HS1 : Aside0 (rushlightref11_Sane.f p0 p1 p2 p3 n s = some true)) (HS2 : Aside0 (rushlightref11_Sane.f q0 q1 q2 q3 0 0 = some true)) :
    Calls Try.prog 16 #[.slice (some ⟨ab, 0, none⟩) 1 1] w fun e w' => (∃ r, e = .returned (.bool r)) ∧ Below w.heap.size w w' := by
  have hu46 := Try.underlying46
  have hu24 := Try.underlying24
  have hu26 := Try.underlying26
  have n0 := blk_lt hb
  have c0 : w.cell? ⟨ab, 0, none⟩ = some (.int .i64 k) := (blk_cell hb 0).trans rfl
  have c1 : w.cell? ⟨ab, 1, none⟩ = some (.int .i64 o) := (blk_cell hb 1).trans rfl
  have c2 : w.cell? ⟨ab, 2, none⟩ = some (.int .i64 n) := (blk_cell hb 2).trans rfl
  have c3 : w.cell? ⟨ab, 3, none⟩ = some (.int .i64 s) := (blk_cell hb 3).trans rfl
  have c4 : w.cell? ⟨ab, 4, none⟩ = some (.bool is) := (blk_cell hb 4).trans rfl
  have c5 : w.cell? ⟨ab, 5, none⟩ = some (.slice A5 l5 c5) := (blk_cell hb 5).trans rfl
  have c6 : w.cell? ⟨ab, 6, none⟩ = some (.int .i64 p0) := (blk_cell hb 6).trans rfl
  have c7 : w.cell? ⟨ab, 7, none⟩ = some (.int .i64 p1) := (blk_cell hb 7).trans rfl
  have c8 : w.cell? ⟨ab, 8, none⟩ = some (.int .i64 p2) := (blk_cell hb 8).trans rfl
  have c9 : w.cell? ⟨ab, 9, none⟩ = some (.int .i64 p3) := (blk_cell hb 9).trans rfl
  have c10 : w.cell? ⟨ab, 10, none⟩ = some (.int .u32 v) := (blk_cell hb 10).trans rfl
  have c11 : w.cell? ⟨ab, 11, none⟩ = some (.int .i64 q0) := (blk_cell hb 11).trans rfl
  have c12 : w.cell? ⟨ab, 12, none⟩ = some (.int .i64 q1) := (blk_cell hb 12).trans rfl
  have c13 : w.cell? ⟨ab, 13, none⟩ = some (.int .i64 q2) := (blk_cell hb 13).trans rfl
  have c14 : w.cell? ⟨ab, 14, none⟩ = some (.int .i64 q3) := (blk_cell hb 14).trans rfl
  have c15 : w.cell? ⟨ab, 15, none⟩ = some (.bool vi) := (blk_cell hb 15).trans rfl
  clear hb
  go_enter Try.func16, Try.ntmps16
  go_wp2
  refine wp_loop_rounds 2 ?_
  rw [rounds_succ]
  go_wp2_with (first | (go_at_call_of 23 (Value.agg #[.int .i64 p0, .int .i64 p1, .int .i64 p2, .int .i64 p3]); (with_reducible refine (rushlightref11_Sane.calls p0 p1 p2 p3 n s true _ HS1.out).mono ?_); rintro e w1 ⟨rfl, hb1⟩; have d11 : w1.cell? ⟨w.heap.size, 11, none⟩ = some (.int .i64 q0) := (hb1.cell (by simp [World.size_alloc])).trans (by go_simp); have d12 : w1.cell? ⟨w.heap.size, 12, none⟩ = some (.int .i64 q1) := (hb1.cell (by simp [World.size_alloc])).trans (by go_simp); have d13 : w1.cell? ⟨w.heap.size, 13, none⟩ = some (.int .i64 q2) := (hb1.cell (by simp [World.size_alloc])).trans (by go_simp); have d14 : w1.cell? ⟨w.heap.size, 14, none⟩ = some (.int .i64 q3) := (hb1.cell (by simp [World.size_alloc])).trans (by go_simp); have HB := Aside0.mk (below_step (by repeat (first | exact Below.refl _ _ | apply below_alloc)) hb1 : Below w.heap.size w w1); clear hb1) | (go_at_call 23; (with_reducible refine (rushlightref11_Sane.calls q0 q1 q2 q3 0 0 true _ HS2.out).mono ?_); rintro e w2 ⟨rfl, hb2⟩; have HB2 := Aside0.mk (below_step HB.out hb2 : Below w.heap.size w w2); clear hb2))
  rw [rounds_succ]
  go_wp2
  go_ret
  exact ⟨⟨_, rfl⟩, HB2.out⟩
set_option maxHeartbeats 8000000 in
set_option maxRecDepth 100000 in
theorem store_Few_d (w : World) (ab : Nat) (k o n s : Int) (is : Bool) (A5 : Option Addr) (l5 c5 : Nat) (p0 p1 p2 p3 v q0 q1 q2 q3 : Int) (vi : Bool) (hb : w.heap[ab]? = some (.cells #[.int .i64 k, .int .i64 o, .int .i64 n, .int .i64 s, .bool is, .slice A5 l5 c5, .int .i64 p0, .int .i64 p1, .int .i64 p2, .int .i64 p3, .int .u32 v, .int .i64 q0, .int .i64 q1, .int .i64 q2, .int .i64 q3, .bool vi] 46 (0, 0))) (g1 : decide (300 < n) = true) (g2 : decide (n ≤ 32768) = true) (g3 : (Int.tmod k 100 == 0) = true)  :
    Calls Try.prog 16 #[.slice (some ⟨ab, 0, none⟩) 1 1] w fun e w' => (∃ r, e = .returned (.bool r)) ∧ Below w.heap.size w w' := by
  have hu46 := Try.underlying46
  have hu24 := Try.underlying24
  have hu26 := Try.underlying26
  have n0 := blk_lt hb
  have c0 : w.cell? ⟨ab, 0, none⟩ = some (.int .i64 k) := (blk_cell hb 0).trans rfl
  have c1 : w.cell? ⟨ab, 1, none⟩ = some (.int .i64 o) := (blk_cell hb 1).trans rfl
  have c2 : w.cell? ⟨ab, 2, none⟩ = some (.int .i64 n) := (blk_cell hb 2).trans rfl
  have c3 : w.cell? ⟨ab, 3, none⟩ = some (.int .i64 s) := (blk_cell hb 3).trans rfl
  have c4 : w.cell? ⟨ab, 4, none⟩ = some (.bool is) := (blk_cell hb 4).trans rfl
  have c5 : w.cell? ⟨ab, 5, none⟩ = some (.slice A5 l5 c5) := (blk_cell hb 5).trans rfl
  have c6 : w.cell? ⟨ab, 6, none⟩ = some (.int .i64 p0) := (blk_cell hb 6).trans rfl
  have c7 : w.cell? ⟨ab, 7, none⟩ = some (.int .i64 p1) := (blk_cell hb 7).trans rfl
  have c8 : w.cell? ⟨ab, 8, none⟩ = some (.int .i64 p2) := (blk_cell hb 8).trans rfl
  have c9 : w.cell? ⟨ab, 9, none⟩ = some (.int .i64 p3) := (blk_cell hb 9).trans rfl
  have c10 : w.cell? ⟨ab, 10, none⟩ = some (.int .u32 v) := (blk_cell hb 10).trans rfl
  have c11 : w.cell? ⟨ab, 11, none⟩ = some (.int .i64 q0) := (blk_cell hb 11).trans rfl
  have c12 : w.cell? ⟨ab, 12, none⟩ = some (.int .i64 q1) := (blk_cell hb 12).trans rfl
  have c13 : w.cell? ⟨ab, 13, none⟩ = some (.int .i64 q2) := (blk_cell hb 13).trans rfl
  have c14 : w.cell? ⟨ab, 14, none⟩ = some (.int .i64 q3) := (blk_cell hb 14).trans rfl
  have c15 : w.cell? ⟨ab, 15, none⟩ = some (.bool vi) := (blk_cell hb 15).trans rfl
  clear hb
  go_enter Try.func16, Try.ntmps16
  go_wp2
  refine wp_loop_rounds 2 ?_
  rw [rounds_succ]
  go_wp2
  go_ret
  exact ⟨⟨_, rfl⟩, by repeat (first | exact Below.refl _ _ | apply below_alloc | apply pw_below_drewN)⟩
theorem store_Few_one (w : World) (ab : Nat) (k o n s : Int) (is : Bool) (A5 : Option Addr) (l5 c5 : Nat) (p0 p1 p2 p3 v q0 q1 q2 q3 : Int) (vi : Bool) (hb : w.heap[ab]? = some (.cells #[.int .i64 k, .int .i64 o, .int .i64 n, .int .i64 s, .bool is, .slice A5 l5 c5, .int .i64 p0, .int .i64 p1, .int .i64 p2, .int .i64 p3, .int .u32 v, .int .i64 q0, .int .i64 q1, .int .i64 q2, .int .i64 q3, .bool vi] 46 (0, 0))) :
    Calls Try.prog 16 #[.slice (some ⟨ab, 0, none⟩) 1 1] w fun e w' => (∃ r, e = .returned (.bool r)) ∧ Below w.heap.size w w' := by
  obtain ⟨r1, hs1⟩ := store_Sane_some p0 p1 p2 p3 n s
  obtain ⟨r2, hs2⟩ := store_Sane_some q0 q1 q2 q3 0 0
  rcases Bool.eq_false_or_eq_true (decide (300 < n)) with g1 | g1
  · rcases Bool.eq_false_or_eq_true (decide (n ≤ 32768)) with g2 | g2
    · rcases Bool.eq_false_or_eq_true (Int.tmod k 100 == 0) with g3 | g3
      · exact store_Few_d w ab k o n s is A5 l5 c5 p0 p1 p2 p3 v q0 q1 q2 q3 vi hb g1 g2 g3
      · by_cases g4 : 300 < l5
        · exact store_Few_c1 w ab k o n s is A5 l5 c5 p0 p1 p2 p3 v q0 q1 q2 q3 vi hb g1 g2 g3 (decide_eq_true (by omega)) (decide_eq_true g4)
        · cases r1
          · exact store_Few_c2 w ab k o n s is A5 l5 c5 p0 p1 p2 p3 v q0 q1 q2 q3 vi hb g1 g2 g3 (decide_eq_false (by omega)) (decide_eq_false g4) ⟨hs1⟩
          · cases r2
            · exact store_Few_c3 w ab k o n s is A5 l5 c5 p0 p1 p2 p3 v q0 q1 q2 q3 vi hb g1 g2 g3 (decide_eq_false (by omega)) (decide_eq_false g4) ⟨hs1⟩ ⟨hs2⟩
            · exact store_Few_c4 w ab k o n s is A5 l5 c5 p0 p1 p2 p3 v q0 q1 q2 q3 vi hb g1 g2 g3 (decide_eq_false (by omega)) (decide_eq_false g4) ⟨hs1⟩ ⟨hs2⟩
    · by_cases g4 : 300 < l5
      · exact store_Few_b1 w ab k o n s is A5 l5 c5 p0 p1 p2 p3 v q0 q1 q2 q3 vi hb g1 g2 (decide_eq_true (by omega)) (decide_eq_true g4)
      · cases r1
        · exact store_Few_b2 w ab k o n s is A5 l5 c5 p0 p1 p2 p3 v q0 q1 q2 q3 vi hb g1 g2 (decide_eq_false (by omega)) (decide_eq_false g4) ⟨hs1⟩
        · cases r2
          · exact store_Few_b3 w ab k o n s is A5 l5 c5 p0 p1 p2 p3 v q0 q1 q2 q3 vi hb g1 g2 (decide_eq_false (by omega)) (decide_eq_false g4) ⟨hs1⟩ ⟨hs2⟩
          · exact store_Few_b4 w ab k o n s is A5 l5 c5 p0 p1 p2 p3 v q0 q1 q2 q3 vi hb g1 g2 (decide_eq_false (by omega)) (decide_eq_false g4) ⟨hs1⟩ ⟨hs2⟩
  · by_cases g4 : 300 < l5
    · exact store_Few_a1 w ab k o n s is A5 l5 c5 p0 p1 p2 p3 v q0 q1 q2 q3 vi hb g1 (decide_eq_true (by omega)) (decide_eq_true g4)
    · cases r1
      · exact store_Few_a2 w ab k o n s is A5 l5 c5 p0 p1 p2 p3 v q0 q1 q2 q3 vi hb g1 (decide_eq_false (by omega)) (decide_eq_false g4) ⟨hs1⟩
      · cases r2
        · exact store_Few_a3 w ab k o n s is A5 l5 c5 p0 p1 p2 p3 v q0 q1 q2 q3 vi hb g1 (decide_eq_false (by omega)) (decide_eq_false g4) ⟨hs1⟩ ⟨hs2⟩
        · exact store_Few_a4 w ab k o n s is A5 l5 c5 p0 p1 p2 p3 v q0 q1 q2 q3 vi hb g1 (decide_eq_false (by omega)) (decide_eq_false g4) ⟨hs1⟩ ⟨hs2⟩
end Go.Proofs.Ytplafnaocgifoaa.St
