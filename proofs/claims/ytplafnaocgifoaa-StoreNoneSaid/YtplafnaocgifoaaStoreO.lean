/- StoreO: functions of the program walked by hand, and what they come to. -/
import Derived.Test.YtplafnaocgifoaaProg
import Derived.Below
import Derived.Deep.Draws
import Derived.Deep.AppendLies
import Derived.Maps.AppendAt
import Derived.OwnWalk
import Derived.Laws.BytesArg
import Derived.Laws.MakeOwn
import Derived.Laws.OwnMore
import Derived.Deep.OwnRows
import Derived.Tactics
import Derived.Lib.ConvBytes
import Derived.Laws.Slices
import Derived.WalkKit
import Derived.KernelRfl
import Derived.RowKit3
import Derived.Deep.LoopGhost
import Derived.Deep.QuietTactic
import Derived.BigQuiet
import Derived.WideLaws
import Derived.Deep.DeepCutAuto
import Derived.Deep.CutBlock
import Derived.Deep.RegionHeld3
import Derived.Laws.Rows
import Derived.Lib.AppendStr
import Derived.ArgAppend
import Derived.Laws.IdiomCopy
import Derived.OrdersHeld
import Derived.Laws.BitsLemmas
import Derived.RowKit
import Derived.Test.YtplafnaocgifoaaWWords
import Derived.Test.YtplafnaocgifoaaWLast
import Derived.Test.YtplafnaocgifoaaWTab
import Derived.Test.YtplafnaocgifoaaWFour
import Derived.Test.YtplafnaocgifoaaWQPut
import Derived.Test.YtplafnaocgifoaaWApart
import Derived.Test.YtplafnaocgifoaaWArr
import Derived.Test.YtplafnaocgifoaaWZeros
import Derived.Test.YtplafnaocgifoaaWFoot
import Derived.Test.YtplafnaocgifoaaWKept
import Derived.Test.YtplafnaocgifoaaWShare
import Derived.Test.YtplafnaocgifoaaWN
import Derived.Test.YtplafnaocgifoaaWFootNe
import Derived.Test.YtplafnaocgifoaaWAt
import Derived.Test.YtplafnaocgifoaaWEqStruct
import Derived.Test.YtplafnaocgifoaaWRepsOne
import Derived.Test.YtplafnaocgifoaaWInv
import Derived.Test.YtplafnaocgifoaaWInvWords
import Derived.Test.YtplafnaocgifoaaWGuard
import Derived.Test.YtplafnaocgifoaaWNEv
import Derived.Test.YtplafnaocgifoaaWMore
import Derived.Test.YtplafnaocgifoaaSt0
import Derived.Test.YtplafnaocgifoaaStoreN
import Derived.Test.YtplafnaocgifoaaStoreJ
import Derived.Test.YtplafnaocgifoaaStoreH
import Derived.Outline
set_option linter.all false
namespace Go.Proofs.Ytplafnaocgifoaa.St
open Go.RowKit Go.Proofs.YtplafnaocgifoaaW.PrintWords Go.Proofs.YtplafnaocgifoaaW.PrintLast Go.Proofs.YtplafnaocgifoaaW.PrintMore
set_option linter.unusedVariables false
theorem store_cells16 {w : World} {b : Nat} {c0 c1 c2 c3 c4 c5 c6 c7 c8 c9 c10 c11 c12 c13 c14 c15 : Value} {t : TypeId} (h : w.heap[b]? = some (.cells #[c0, c1, c2, c3, c4, c5, c6, c7, c8, c9, c10, c11, c12, c13, c14, c15] t (0, 0))) : w.cell? ⟨b, 0, none⟩ = some c0 ∧ w.cell? ⟨b, 1, none⟩ = some c1 ∧ w.cell? ⟨b, 2, none⟩ = some c2 ∧ w.cell? ⟨b, 3, none⟩ = some c3 ∧ w.cell? ⟨b, 4, none⟩ = some c4 ∧ w.cell? ⟨b, 5, none⟩ = some c5 ∧ w.cell? ⟨b, 6, none⟩ = some c6 ∧ w.cell? ⟨b, 7, none⟩ = some c7 ∧ w.cell? ⟨b, 8, none⟩ = some c8 ∧ w.cell? ⟨b, 9, none⟩ = some c9 ∧ w.cell? ⟨b, 10, none⟩ = some c10 ∧ w.cell? ⟨b, 11, none⟩ = some c11 ∧ w.cell? ⟨b, 12, none⟩ = some c12 ∧ w.cell? ⟨b, 13, none⟩ = some c13 ∧ w.cell? ⟨b, 14, none⟩ = some c14 ∧ w.cell? ⟨b, 15, none⟩ = some c15 :=
  ⟨(blk_cell h 0).trans rfl, (blk_cell h 1).trans rfl, (blk_cell h 2).trans rfl, (blk_cell h 3).trans rfl, (blk_cell h 4).trans rfl, (blk_cell h 5).trans rfl, (blk_cell h 6).trans rfl, (blk_cell h 7).trans rfl, (blk_cell h 8).trans rfl, (blk_cell h 9).trans rfl, (blk_cell h 10).trans rfl, (blk_cell h 11).trans rfl, (blk_cell h 12).trans rfl, (blk_cell h 13).trans rfl, (blk_cell h 14).trans rfl, (blk_cell h 15).trans rfl⟩
set_option maxHeartbeats 8000000 in
set_option maxRecDepth 100000 in
theorem law11_StoreNone (w : World) (k o n s : Int) (is : Bool) (A5 : Option Addr) (l5 c5 : Nat) (p0 p1 p2 p3 v q0 q1 q2 q3 : Int) (vi : Bool) :
    Calls Try.prog 5 #[.agg #[.int .i64 k, .int .i64 o, .int .i64 n, .int .i64 s, .bool is, .slice A5 l5 c5, .int .i64 p0, .int .i64 p1, .int .i64 p2, .int .i64 p3, .int .u32 v, .int .i64 q0, .int .i64 q1, .int .i64 q2, .int .i64 q3, .bool vi]] w fun e w' => e = .returned (.bool true) ∧ Below w.heap.size w w' := by
  have hu46 := Try.underlying46
  have hu24 := Try.underlying24
  have hu26 := Try.underlying26
  have hu48 := Try.underlying48
  go_enter Try.func5, Try.ntmps5
  go_upto_region 2 with ((go_at_call 16; refine (store_Few_one _ (w.heap.size + 1) k o n s is A5 l5 c5 p0 p1 p2 p3 v q0 q1 q2 q3 vi ?hb).mono ?_; (case hb => exact store_second w _ _); rintro e w1 ⟨⟨r, rfl⟩, hb⟩; have A1 := Aside0.mk (blk_below (blk_alloc (blk_new w _) _) hb); have B1 := Aside0.mk (below_step (by repeat (first | exact Below.refl _ _ | apply below_alloc)) hb : Below w.heap.size w w1); obtain ⟨a0, a1, a2, a3, a4, a5, a6, a7, a8, a9, a10, a11, a12, a13, a14, a15⟩ := store_cells16 A1.out; have n1 : w.heap.size < w1.heap.size := (by have := hb.size; (try simp [World.size_alloc] at this); omega); clear hb; cases r))
  · go_wp2_with (go_at_call 6; (with_reducible refine (law11_awake _).mono ?_); rintro e w2 ⟨rfl, hb⟩; have B2 := Aside0.mk (below_step B1.out hb); clear hb)
    go_ret
    exact ⟨rfl, B2.out⟩
  · go_upto_region 5 with (go_at_call 8; refine (store_Make_nil _ n).mono ?_; rintro e w2 ⟨rfl, hb⟩; have A2 := Aside0.mk (blk_below A1.out hb); have B2 := Aside0.mk (below_step B1.out hb); have n2 : w.heap.size < w2.heap.size := (by have := hb.size; (try simp [World.size_alloc] at this); omega); clear hb)
    clear a0 a1 a2 a3 a4 a5 a6 a7 a8 a9 a10 a11 a12 a13 a14 a15; obtain ⟨a0, a1, a2, a3, a4, a5, a6, a7, a8, a9, a10, a11, a12, a13, a14, a15⟩ := store_cells16 A2.out; 
    go_upto_region 6 with (go_at_call 11; refine (store_Load_nil _ p0 p1 p2 p3 s is).mono ?_; rintro e w3 ⟨rfl, hb⟩; have A3 := Aside0.mk (blk_below (blk_alloc A2.out _) hb); have P3 := Aside0.mk (blk_below (blk_new w2 _) hb); have B3 := Aside0.mk (below_step (below_alloc B2.out _) hb); have n3 : w.heap.size < w3.heap.size := (by have := hb.size; (try simp [World.size_alloc] at this); omega); have m3 : w2.heap.size < w3.heap.size := (by have := hb.size; simp [World.size_alloc] at this; omega); clear hb)
    clear a0 a1 a2 a3 a4 a5 a6 a7 a8 a9 a10 a11 a12 a13 a14 a15; obtain ⟨a0, a1, a2, a3, a4, a5, a6, a7, a8, a9, a10, a11, a12, a13, a14, a15⟩ := store_cells16 A3.out; 
    go_upto_region 7 with (go_at_call 9; refine (store_Move_nil _ p0 p1 p2 p3 n).mono ?_; rintro e w4 ⟨rfl, hb⟩; have A4 := Aside0.mk (blk_below (blk_alloc A3.out _) hb); have P4 := Aside0.mk (blk_below (blk_alloc P3.out _) hb); have V4 := Aside0.mk (blk_below (blk_new w3 _) hb); have B4 := Aside0.mk (below_step (below_alloc B3.out _) hb); have n4 : w.heap.size < w4.heap.size := (by have := hb.size; (try simp [World.size_alloc] at this); omega); have m4 : w3.heap.size < w4.heap.size := (by have := hb.size; simp [World.size_alloc] at this; omega); clear hb)
    clear a0 a1 a2 a3 a4 a5 a6 a7 a8 a9 a10 a11 a12 a13 a14 a15; obtain ⟨a0, a1, a2, a3, a4, a5, a6, a7, a8, a9, a10, a11, a12, a13, a14, a15⟩ := store_cells16 A4.out; 
    go_wp2_with (first | (go_at_call 13; refine (store_Part_nil _ p0 p1 p2 p3 n s).mono ?_; rintro e w5 ⟨rfl, hb⟩; have A5 := Aside0.mk (blk_below (blk_alloc A4.out _) hb); have P5 := Aside0.mk (blk_below (blk_alloc P4.out _) hb); have V5 := Aside0.mk (blk_below (blk_alloc V4.out _) hb); have Q5 := Aside0.mk (blk_below (blk_new w4 _) hb); have B5 := Aside0.mk (below_step (below_alloc B4.out _) hb); have m5 : w4.heap.size < w5.heap.size := (by have := hb.size; simp [World.size_alloc] at this; omega); clear hb) | (go_at_call 6; (with_reducible refine (law11_awake _).mono ?_); rintro e w6 ⟨rfl, hb⟩; have A6 := Aside0.mk (blk_below (blk_alloc A5.out _) hb); have P6 := Aside0.mk (blk_below (blk_alloc P5.out _) hb); have V6 := Aside0.mk (blk_below (blk_alloc V5.out _) hb); have Q6 := Aside0.mk (blk_below (blk_alloc Q5.out _) hb); have R6 := Aside0.mk (blk_below (blk_new w5 _) hb); have B6 := Aside0.mk (below_step (below_alloc B5.out _) hb); clear hb; clear a0 a1 a2 a3 a4 a5 a6 a7 a8 a9 a10 a11 a12 a13 a14 a15; obtain ⟨a0, a1, a2, a3, a4, a5, a6, a7, a8, a9, a10, a11, a12, a13, a14, a15⟩ := store_cells16 A6.out; obtain ⟨e0, e1, e2, e3⟩ := store_cells4 P6.out; obtain ⟨f0, f1, f2, f3, f4, f5⟩ := store_cells6 V6.out; obtain ⟨g0, g1, g2, g3⟩ := store_cells4 Q6.out; obtain ⟨h0, h1, h2, h3⟩ := store_cells4 R6.out) | (go_at_call 12; (with_reducible refine (store_Fill_nil _ _ _).mono ?_); rintro e w7 ⟨rfl, rfl⟩) | (go_at_call 14; (with_reducible refine (store_Unset_nil _ _).mono ?_); rintro e w7 ⟨rfl, rfl⟩) | (go_at_call 15; (with_reducible refine (store_Drop_nil _ _).mono ?_); rintro e w7 ⟨rfl, rfl⟩) | (go_at_call 10; (with_reducible refine (store_Put_nil _ p0 p1 p2 p3 s v ⟨q0, q1, q2, q3⟩ vi).mono ?_); rintro e w8 ⟨rfl, hb⟩; have B8 := Aside0.mk (below_step B6.out hb); clear hb) | (go_at_call 17; (with_reducible refine (store_Count_nil _).mono ?_); rintro e w9 ⟨rfl, rfl⟩))
    go_ret
    exact ⟨rfl, B8.out⟩
end Go.Proofs.Ytplafnaocgifoaa.St
