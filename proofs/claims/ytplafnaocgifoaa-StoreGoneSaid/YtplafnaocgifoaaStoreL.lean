/- StoreL: functions of the program walked by hand, and what they come to. -/
import Derived.Test.YtplafnaocgifoaaProg
import Derived.Below
import Derived.Deep.Draws
import Derived.Deep.AppendLies
import Derived.Maps.AppendAt
import Derived.OwnWalk
import Derived.Laws.BytesArg
import Derived.Laws.MakeOwn
import Derived.Laws.OwnMore
import Derived.Deep.OwnRows
import Derived.Tactics
import Derived.Lib.ConvBytes
import Derived.Laws.Slices
import Derived.WalkKit
import Derived.KernelRfl
import Derived.RowKit3
import Derived.Deep.LoopGhost
import Derived.Deep.QuietTactic
import Derived.BigQuiet
import Derived.WideLaws
import Derived.Deep.DeepCutAuto
import Derived.Deep.CutBlock
import Derived.Deep.RegionHeld3
import Derived.Laws.Rows
import Derived.Lib.AppendStr
import Derived.ArgAppend
import Derived.Laws.IdiomCopy
import Derived.OrdersHeld
import Derived.Laws.BitsLemmas
import Derived.RowKit
import Derived.Test.YtplafnaocgifoaaWWords
import Derived.Test.YtplafnaocgifoaaWLast
import Derived.Test.YtplafnaocgifoaaWTab
import Derived.Test.YtplafnaocgifoaaWFour
import Derived.Test.YtplafnaocgifoaaWQPut
import Derived.Test.YtplafnaocgifoaaWApart
import Derived.Test.YtplafnaocgifoaaWArr
import Derived.Test.YtplafnaocgifoaaWZeros
import Derived.Test.YtplafnaocgifoaaWFoot
import Derived.Test.YtplafnaocgifoaaWKept
import Derived.Test.YtplafnaocgifoaaWShare
import Derived.Test.YtplafnaocgifoaaWN
import Derived.Test.YtplafnaocgifoaaWFootNe
import Derived.Test.YtplafnaocgifoaaWAt
import Derived.Test.YtplafnaocgifoaaWEqStruct
import Derived.Test.YtplafnaocgifoaaWRepsOne
import Derived.Test.YtplafnaocgifoaaWInv
import Derived.Test.YtplafnaocgifoaaWInvWords
import Derived.Test.YtplafnaocgifoaaWGuard
import Derived.Test.YtplafnaocgifoaaWNEv
import Derived.Test.YtplafnaocgifoaaWMore
import Derived.Test.YtplafnaocgifoaaSt0
import Derived.Test.YtplafnaocgifoaaStoreH
import Derived.Outline
set_option linter.all false
namespace Go.Proofs.Ytplafnaocgifoaa.St
open Go.RowKit Go.Proofs.YtplafnaocgifoaaW.PrintWords Go.Proofs.YtplafnaocgifoaaW.PrintLast Go.Proofs.YtplafnaocgifoaaW.PrintMore
set_option linter.unusedVariables false
set_option maxHeartbeats 8000000 in
set_option maxRecDepth 100000 in
theorem store_fit_gone (w : World) (sb lb cap : Nat) (cs : Array Value) (p1 p2 p3 : Int)
    (hs : w.heap[sb]? = some (.cells #[.slice (some ⟨lb, 0, none⟩) 1 cap] 53 (0, 0))) (hl : w.heap[lb]? = some (.cells cs 59 (0, 0))) (hg : cs[3]? = some (.bool true)) :
    Calls Try.prog 18 #[.pointer (some ⟨sb, 0, none⟩), .agg #[.int .i64 1, .int .i64 p1, .int .i64 p2, .int .i64 p3]] w fun e w' => e = .returned (.tuple #[.pointer none, .int .i64 15]) ∧ Below w.heap.size w w' := by
  have f0 : w.cell? ⟨sb, 0, none⟩ = some (.slice (some ⟨lb, 0, none⟩) 1 cap) := (blk_cell hs 0).trans rfl
  have f3 : w.cell? ⟨lb, 3, none⟩ = some (.bool true) := (blk_cell hl 3).trans hg
  have n0 := blk_lt hs
  have n1 := blk_lt hl
  have hu24 := Try.underlying24
  have hu53 := Try.underlying53
  have hu59 := Try.underlying59
  have hu51 := Try.underlying51
  clear hs hl hg
  go_enter Try.func18, Try.ntmps18
  go_wp2
  go_quiet (fail)
  go_wp2
  go_quiet (fail)
  go_wp2
  refine bodyPost_ret (v := .tuple #[.pointer none, .int .i64 15]) (by simp [results, Try.results18, go_sem]) rfl ?_
  exact ⟨rfl, by repeat (first | exact Below.refl _ _ | apply below_alloc | apply pw_below_drewN)⟩
/-- a memory whose one object is gone -/
structure store_Gone (w0 w : World) (sb lb cap : Nat) : Prop where
  s : w.heap[sb]? = some (.cells #[.slice (some ⟨lb, 0, none⟩) 1 cap] 53 (0, 0))
  l : ∃ cs : Array Value, w.heap[lb]? = some (.cells cs 59 (0, 0)) ∧ cs[3]? = some (.bool true)
  below : Below w0.heap.size w0 w
theorem store_Gone.step {w0 w w' : World} {sb lb cap : Nat} (h : store_Gone w0 w sb lb cap) (hb : Below w.heap.size w w') : store_Gone w0 w' sb lb cap where
  s := blk_below h.s hb
  l := by obtain ⟨cs, h1, h2⟩ := h.l; exact ⟨cs, blk_below h1 hb, h2⟩
  below := below_step h.below hb
theorem store_fit_dead (w0 w : World) (sb lb cap : Nat) (p1 p2 p3 : Int) (h : store_Gone w0 w sb lb cap) :
    Calls Try.prog 18 #[.pointer (some ⟨sb, 0, none⟩), .agg #[.int .i64 1, .int .i64 p1, .int .i64 p2, .int .i64 p3]] w fun e w' => e = .returned (.tuple #[.pointer none, .int .i64 15]) ∧ Below w.heap.size w w' := by
  obtain ⟨cs, l1, l2⟩ := h.l
  exact store_fit_gone w sb lb cap cs p1 p2 p3 h.s l1 l2
set_option maxHeartbeats 8000000 in
set_option maxRecDepth 100000 in
theorem store_place1_gone (w0 w : World) (sb lb cap : Nat) (h : store_Gone w0 w sb lb cap) (p1 p2 p3 : Int) :
    Calls Try.prog 19 #[.pointer (some ⟨sb, 0, none⟩), .agg #[.int .i64 1, .int .i64 p1, .int .i64 p2, .int .i64 p3], .int .i64 1, .bool false] w fun e w' => e = .returned (.tuple #[.pointer none, .int .i64 15]) ∧ Below w.heap.size w w' := by
  have hu24 := Try.underlying24
  have HG := Aside0.mk h
  clear h
  go_enter Try.func19, Try.ntmps19
  go_wp2_with (go_at_call 18; (with_reducible refine (store_fit_dead w0 _ sb lb cap p1 p2 p3 ?a1).mono ?_); (case a1 => exact HG.out.step (by repeat (first | exact Below.refl _ _ | apply below_alloc))); rintro e w1 ⟨rfl, hb⟩; have HB := Aside0.mk (below_step (by repeat (first | exact Below.refl _ _ | apply below_alloc)) hb : Below w.heap.size w w1); clear hb)
  refine bodyPost_ret (v := .tuple #[.pointer none, .int .i64 15]) (by simp [results, Try.results19, go_sem]) rfl ?_
  exact ⟨rfl, HB.out⟩
set_option maxHeartbeats 8000000 in
set_option maxRecDepth 100000 in
theorem store_Move_gone (w0 w : World) (sb lb cap : Nat) (h : store_Gone w0 w sb lb cap) (p1 p2 p3 by_ : Int) :
    Calls Try.prog 9 #[.pointer (some ⟨sb, 0, none⟩), .agg #[.int .i64 1, .int .i64 p1, .int .i64 p2, .int .i64 p3], .int .i64 by_] w fun e w' => e = .returned (.tuple #[.agg #[.int .i64 0, .int .i64 0, .int .i64 0, .int .i64 0], .int .i64 15]) ∧ Below w.heap.size w w' := by
  have hu24 := Try.underlying24
  have HG := Aside0.mk h
  clear h
  go_enter Try.func9, Try.ntmps9
  go_wp2_with (go_at_call 18; (with_reducible refine (store_fit_dead w0 _ sb lb cap p1 p2 p3 ?a1).mono ?_); (case a1 => exact HG.out.step (by repeat (first | exact Below.refl _ _ | apply below_alloc))); rintro e w1 ⟨rfl, hb⟩; have HR := Aside0.mk ((hb.block (w.heap.size + 1) (by simp [World.size_alloc])).trans (store_second w _ _)); have r0 : w1.cell? ⟨w.heap.size + 1, 0, none⟩ = some (.int .i64 0) := (blk_cell HR.out 0).trans rfl; have r1 : w1.cell? ⟨w.heap.size + 1, 1, none⟩ = some (.int .i64 0) := (blk_cell HR.out 1).trans rfl; have r2 : w1.cell? ⟨w.heap.size + 1, 2, none⟩ = some (.int .i64 0) := (blk_cell HR.out 2).trans rfl; have r3 : w1.cell? ⟨w.heap.size + 1, 3, none⟩ = some (.int .i64 0) := (blk_cell HR.out 3).trans rfl; have y0 := blk_frozen HR.out 0; have y1 := blk_frozen HR.out 1; have y2 := blk_frozen HR.out 2; have y3 := blk_frozen HR.out 3; have HB := Aside0.mk (below_step (by repeat (first | exact Below.refl _ _ | apply below_alloc)) hb : Below w.heap.size w w1); clear hb)
  refine bodyPost_ret (results_ct rfl _ _ (w.heap.size + 1) 24 #[.int .i64 0, .int .i64 0, .int .i64 0, .int .i64 0] (0, 0) _ rfl (blk_put (blk_put (blk_put (blk_put HR.out 0 _ rfl) 1 _ rfl) 2 _ rfl) 3 _ rfl) Try.underlying24 rfl (by kernel_rfl)) rfl ?_
  exact ⟨rfl, by repeat (first | exact HB.out | (refine below_set ?_ (by omega)))⟩
set_option maxHeartbeats 8000000 in
set_option maxRecDepth 100000 in
theorem store_Put_gone (w0 w : World) (sb lb cap : Nat) (h : store_Gone w0 w sb lb cap) (p1 p2 p3 x : Int) (q : S24) :
    Calls Try.prog 10 #[.pointer (some ⟨sb, 0, none⟩), .agg #[.int .i64 1, .int .i64 p1, .int .i64 p2, .int .i64 p3], .int .i64 1, .agg #[.int .u32 x, .int .i64 q.f0, .int .i64 q.f1, .int .i64 q.f2, .int .i64 q.f3, .bool false]] w fun e w' => e = .returned (.int .i64 15) ∧ Below w.heap.size w w' := by
  have hu24 := Try.underlying24
  have hu26 := Try.underlying26
  have HG := Aside0.mk h
  clear h
  go_enter Try.func10, Try.ntmps10
  go_wp2_with (go_at_call 19; (with_reducible refine (store_place1_gone w0 _ sb lb cap ?a1 p1 p2 p3).mono ?_); (case a1 => exact HG.out.step (by repeat (first | exact Below.refl _ _ | apply below_alloc))); rintro e w1 ⟨rfl, hb⟩; have HB := Aside0.mk (below_step (by repeat (first | exact Below.refl _ _ | apply below_alloc)) hb : Below w.heap.size w w1); clear hb)
  go_ret
  exact ⟨rfl, HB.out⟩
set_option maxHeartbeats 8000000 in
set_option maxRecDepth 100000 in
theorem store_Load_gone (w0 w : World) (sb lb cap : Nat) (h : store_Gone w0 w sb lb cap) (p1 p2 p3 : Int) :
    Calls Try.prog 11 #[.pointer (some ⟨sb, 0, none⟩), .agg #[.int .i64 1, .int .i64 p1, .int .i64 p2, .int .i64 p3], .int .i64 1, .bool false] w fun e w' => e = .returned (.tuple #[.agg #[.int .u32 0, .int .i64 0, .int .i64 0, .int .i64 0, .int .i64 0, .bool false], .int .i64 15]) ∧ Below w.heap.size w w' := by
  have hu24 := Try.underlying24
  have hu26 := Try.underlying26
  have HG := Aside0.mk h
  clear h
  go_enter Try.func11, Try.ntmps11
  go_wp2_with (go_at_call 19; (with_reducible refine (store_place1_gone w0 _ sb lb cap ?a1 p1 p2 p3).mono ?_); (case a1 => exact HG.out.step (by repeat (first | exact Below.refl _ _ | apply below_alloc))); rintro e w1 ⟨rfl, hb⟩; have HR := Aside0.mk ((hb.block (w.heap.size + 1) (by simp [World.size_alloc])).trans (store_second w _ _)); have r0 : w1.cell? ⟨w.heap.size + 1, 0, none⟩ = some (.int .u32 0) := (blk_cell HR.out 0).trans rfl; have y0 := blk_frozen HR.out 0; have r1 : w1.cell? ⟨w.heap.size + 1, 1, none⟩ = some (.int .i64 0) := (blk_cell HR.out 1).trans rfl; have y1 := blk_frozen HR.out 1; have r2 : w1.cell? ⟨w.heap.size + 1, 2, none⟩ = some (.int .i64 0) := (blk_cell HR.out 2).trans rfl; have y2 := blk_frozen HR.out 2; have r3 : w1.cell? ⟨w.heap.size + 1, 3, none⟩ = some (.int .i64 0) := (blk_cell HR.out 3).trans rfl; have y3 := blk_frozen HR.out 3; have r4 : w1.cell? ⟨w.heap.size + 1, 4, none⟩ = some (.int .i64 0) := (blk_cell HR.out 4).trans rfl; have y4 := blk_frozen HR.out 4; have r5 : w1.cell? ⟨w.heap.size + 1, 5, none⟩ = some (.bool false) := (blk_cell HR.out 5).trans rfl; have y5 := blk_frozen HR.out 5; have HB := Aside0.mk (below_step (by repeat (first | exact Below.refl _ _ | apply below_alloc)) hb : Below w.heap.size w w1); clear hb)
  refine bodyPost_ret (results_ct rfl _ _ (w.heap.size + 1) 26 #[.int .u32 0, .int .i64 0, .int .i64 0, .int .i64 0, .int .i64 0, .bool false] (0, 0) _ rfl (blk_put (blk_put (blk_put (blk_put (blk_put (blk_put HR.out 0 _ rfl) 1 _ rfl) 2 _ rfl) 3 _ rfl) 4 _ rfl) 5 _ rfl) Try.underlying26 rfl (by kernel_rfl)) rfl ?_
  exact ⟨rfl, by repeat (first | exact HB.out | (refine below_set ?_ (by omega)))⟩
set_option maxHeartbeats 8000000 in
set_option maxRecDepth 100000 in
theorem store_object_gone (w0 w : World) (sb lb cap : Nat) (h : store_Gone w0 w sb lb cap) :
    Calls Try.prog 21 #[.pointer (some ⟨sb, 0, none⟩), .int .i64 1] w fun e w' => e = .returned (.tuple #[.pointer none, .int .i64 4]) ∧ w' = w := by
  have hu53 := Try.underlying53
  have hu51 := Try.underlying51
  have hu59 := Try.underlying59
  obtain ⟨cs, l1, l2⟩ := h.l
  have f0 : w.cell? ⟨sb, 0, none⟩ = some (.slice (some ⟨lb, 0, none⟩) 1 cap) := (blk_cell h.s 0).trans rfl
  have f3 : w.cell? ⟨lb, 3, none⟩ = some (.bool true) := (blk_cell l1 3).trans l2
  clear l1 l2 h
  go_enter Try.func21, Try.ntmps21
  go_wp2
  refine bodyPost_ret (v := .tuple #[.pointer none, .int .i64 4]) (by simp [results, Try.results21, go_sem]) rfl ?_
  exact ⟨rfl, rfl⟩
set_option maxHeartbeats 8000000 in
set_option maxRecDepth 100000 in
theorem store_Drop_gone (w0 w : World) (sb lb cap : Nat) (h : store_Gone w0 w sb lb cap) :
    Calls Try.prog 15 #[.pointer (some ⟨sb, 0, none⟩), .int .i64 1] w fun e w' => e = .returned (.int .i64 4) ∧ w' = w := by
  go_enter Try.func15, Try.ntmps15
  go_wp2_with (go_at_call 21; (with_reducible refine (store_object_gone w0 _ sb lb cap h).mono ?_); rintro e w1 ⟨rfl, rfl⟩)
  go_ret
  exact ⟨rfl, rfl⟩
end Go.Proofs.Ytplafnaocgifoaa.St
