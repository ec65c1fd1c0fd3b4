/- StoreH: functions of the program walked by hand, and what they come to. -/
import Derived.Test.YtplafnaocgifoaaProg
import Derived.Below
import Derived.Deep.Draws
import Derived.Deep.AppendLies
import Derived.Maps.AppendAt
import Derived.OwnWalk
import Derived.Laws.BytesArg
import Derived.Laws.MakeOwn
import Derived.Laws.OwnMore
import Derived.Deep.OwnRows
import Derived.Tactics
import Derived.Lib.ConvBytes
import Derived.Laws.Slices
import Derived.WalkKit
import Derived.KernelRfl
import Derived.RowKit3
import Derived.Deep.LoopGhost
import Derived.Deep.QuietTactic
import Derived.BigQuiet
import Derived.WideLaws
import Derived.Deep.DeepCutAuto
import Derived.Deep.CutBlock
import Derived.Deep.RegionHeld3
import Derived.Laws.Rows
import Derived.Lib.AppendStr
import Derived.ArgAppend
import Derived.Laws.IdiomCopy
import Derived.OrdersHeld
import Derived.Laws.BitsLemmas
import Derived.RowKit
import Derived.Test.YtplafnaocgifoaaWWords
import Derived.Test.YtplafnaocgifoaaWLast
import Derived.Test.YtplafnaocgifoaaWTab
import Derived.Test.YtplafnaocgifoaaWFour
import Derived.Test.YtplafnaocgifoaaWQPut
import Derived.Test.YtplafnaocgifoaaWApart
import Derived.Test.YtplafnaocgifoaaWArr
import Derived.Test.YtplafnaocgifoaaWZeros
import Derived.Test.YtplafnaocgifoaaWFoot
import Derived.Test.YtplafnaocgifoaaWKept
import Derived.Test.YtplafnaocgifoaaWShare
import Derived.Test.YtplafnaocgifoaaWN
import Derived.Test.YtplafnaocgifoaaWFootNe
import Derived.Test.YtplafnaocgifoaaWAt
import Derived.Test.YtplafnaocgifoaaWEqStruct
import Derived.Test.YtplafnaocgifoaaWRepsOne
import Derived.Test.YtplafnaocgifoaaWInv
import Derived.Test.YtplafnaocgifoaaWInvWords
import Derived.Test.YtplafnaocgifoaaWGuard
import Derived.Test.YtplafnaocgifoaaWNEv
import Derived.Test.YtplafnaocgifoaaWMore
import Derived.Test.YtplafnaocgifoaaSt0
import Derived.Test.YtplafnaocgifoaaStoreD
import Derived.Outline
set_option linter.all false
namespace Go.Proofs.Ytplafnaocgifoaa.St
open Go.RowKit Go.Proofs.YtplafnaocgifoaaW.PrintWords Go.Proofs.YtplafnaocgifoaaW.PrintLast Go.Proofs.YtplafnaocgifoaaW.PrintMore
set_option maxHeartbeats 8000000 in
set_option maxRecDepth 100000 in
theorem store_fit_nil (w : World) (p0 p1 p2 p3 : Int) :
    Calls Try.prog 18 #[.pointer none, .agg #[.int .i64 p0, .int .i64 p1, .int .i64 p2, .int .i64 p3]] w fun e w' => e = .returned (.tuple #[.pointer none, .int .i64 1]) ∧ Below w.heap.size w w' := by
  have hu24 := Try.underlying24
  go_enter Try.func18, Try.ntmps18
  go_wp2
  refine bodyPost_ret (v := .tuple #[.pointer none, .int .i64 1]) (by simp [results, Try.results18, go_sem]) rfl ?_
  exact ⟨rfl, by repeat (first | exact Below.refl _ _ | apply below_alloc | apply pw_below_drewN)⟩
set_option maxHeartbeats 8000000 in
set_option maxRecDepth 100000 in
theorem store_place_nil (w : World) (p0 p1 p2 p3 size : Int) (ptr : Bool) :
    Calls Try.prog 19 #[.pointer none, .agg #[.int .i64 p0, .int .i64 p1, .int .i64 p2, .int .i64 p3], .int .i64 size, .bool ptr] w fun e w' => e = .returned (.tuple #[.pointer none, .int .i64 1]) ∧ Below w.heap.size w w' := by
  have hu24 := Try.underlying24
  go_enter Try.func19, Try.ntmps19
  go_wp2
  refine bodyPost_ret (v := .tuple #[.pointer none, .int .i64 1]) (by simp [results, Try.results19, go_sem]) rfl ?_
  exact ⟨rfl, by repeat (first | exact Below.refl _ _ | apply below_alloc | apply pw_below_drewN)⟩
set_option maxHeartbeats 8000000 in
set_option maxRecDepth 100000 in
theorem store_Make_nil (w : World) (n : Int) :
    Calls Try.prog 8 #[.pointer none, .int .i64 n] w fun e w' => e = .returned (.tuple #[.agg #[.int .i64 0, .int .i64 0, .int .i64 0, .int .i64 0], .int .i64 1]) ∧ Below w.heap.size w w' := by
  have hu24 := Try.underlying24
  go_enter Try.func8, Try.ntmps8
  go_wp2
  refine bodyPost_ret (results_ct rfl _ _ w.heap.size 24 #[.int .i64 0, .int .i64 0, .int .i64 0, .int .i64 0] (0, 0) _ rfl (blk_new w _) Try.underlying24 rfl (by kernel_rfl)) rfl ?_
  exact ⟨rfl, by repeat (first | exact Below.refl _ _ | apply below_alloc | apply pw_below_drewN)⟩
set_option maxHeartbeats 8000000 in
set_option maxRecDepth 100000 in
theorem store_Move_nil (w : World) (p0 p1 p2 p3 by_ : Int) :
    Calls Try.prog 9 #[.pointer none, .agg #[.int .i64 p0, .int .i64 p1, .int .i64 p2, .int .i64 p3], .int .i64 by_] w fun e w' => e = .returned (.tuple #[.agg #[.int .i64 0, .int .i64 0, .int .i64 0, .int .i64 0], .int .i64 1]) ∧ Below w.heap.size w w' := by
  have hu24 := Try.underlying24
  go_enter Try.func9, Try.ntmps9
  go_wp2_with (go_at_call 18; (with_reducible refine (store_fit_nil _ p0 p1 p2 p3).mono ?_); rintro e w1 ⟨rfl, hb⟩; have HR := Aside0.mk ((hb.block (w.heap.size + 1) (by simp [World.size_alloc])).trans (store_second w _ _)); have r0 : w1.cell? ⟨w.heap.size + 1, 0, none⟩ = some (.int .i64 0) := (blk_cell HR.out 0).trans rfl; have r1 : w1.cell? ⟨w.heap.size + 1, 1, none⟩ = some (.int .i64 0) := (blk_cell HR.out 1).trans rfl; have r2 : w1.cell? ⟨w.heap.size + 1, 2, none⟩ = some (.int .i64 0) := (blk_cell HR.out 2).trans rfl; have r3 : w1.cell? ⟨w.heap.size + 1, 3, none⟩ = some (.int .i64 0) := (blk_cell HR.out 3).trans rfl; have y0 := blk_frozen HR.out 0; have y1 := blk_frozen HR.out 1; have y2 := blk_frozen HR.out 2; have y3 := blk_frozen HR.out 3; have HB := Aside0.mk (below_step (by repeat (first | exact Below.refl _ _ | apply below_alloc)) hb : Below w.heap.size w w1); clear hb)
  refine bodyPost_ret (results_ct rfl _ _ (w.heap.size + 1) 24 #[.int .i64 0, .int .i64 0, .int .i64 0, .int .i64 0] (0, 0) _ rfl (blk_put (blk_put (blk_put (blk_put HR.out 0 _ rfl) 1 _ rfl) 2 _ rfl) 3 _ rfl) Try.underlying24 rfl (by kernel_rfl)) rfl ?_
  exact ⟨rfl, by repeat (first | exact HB.out | (refine below_set ?_ (by omega)))⟩
set_option maxHeartbeats 8000000 in
set_option maxRecDepth 100000 in
theorem store_Put_nil (w : World) (p0 p1 p2 p3 size x : Int) (q : S24) (is : Bool) :
    Calls Try.prog 10 #[.pointer none, .agg #[.int .i64 p0, .int .i64 p1, .int .i64 p2, .int .i64 p3], .int .i64 size, .agg #[.int .u32 x, .int .i64 q.f0, .int .i64 q.f1, .int .i64 q.f2, .int .i64 q.f3, .bool is]] w fun e w' => e = .returned (.int .i64 1) ∧ Below w.heap.size w w' := by
  have hu24 := Try.underlying24
  have hu26 := Try.underlying26
  go_enter Try.func10, Try.ntmps10
  go_wp2_with (go_at_call 19; (with_reducible refine (store_place_nil _ p0 p1 p2 p3 size is).mono ?_); rintro e w1 ⟨rfl, hb⟩; have HB := Aside0.mk (below_step (by repeat (first | exact Below.refl _ _ | apply below_alloc)) hb : Below w.heap.size w w1); clear hb)
  go_ret
  exact ⟨rfl, HB.out⟩
set_option maxHeartbeats 8000000 in
set_option maxRecDepth 100000 in
theorem store_Part_nil (w : World) (p0 p1 p2 p3 at_ size : Int) :
    Calls Try.prog 13 #[.pointer none, .agg #[.int .i64 p0, .int .i64 p1, .int .i64 p2, .int .i64 p3], .int .i64 at_, .int .i64 size] w fun e w' => e = .returned (.tuple #[.agg #[.int .i64 0, .int .i64 0, .int .i64 0, .int .i64 0], .int .i64 1]) ∧ Below w.heap.size w w' := by
  have hu24 := Try.underlying24
  go_enter Try.func13, Try.ntmps13
  go_wp2_with (go_at_call 18; (with_reducible refine (store_fit_nil _ p0 p1 p2 p3).mono ?_); rintro e w1 ⟨rfl, hb⟩; have HR := Aside0.mk ((hb.block (w.heap.size + 1) (by simp [World.size_alloc])).trans (store_second w _ _)); have r0 : w1.cell? ⟨w.heap.size + 1, 0, none⟩ = some (.int .i64 0) := (blk_cell HR.out 0).trans rfl; have r1 : w1.cell? ⟨w.heap.size + 1, 1, none⟩ = some (.int .i64 0) := (blk_cell HR.out 1).trans rfl; have r2 : w1.cell? ⟨w.heap.size + 1, 2, none⟩ = some (.int .i64 0) := (blk_cell HR.out 2).trans rfl; have r3 : w1.cell? ⟨w.heap.size + 1, 3, none⟩ = some (.int .i64 0) := (blk_cell HR.out 3).trans rfl; have y0 := blk_frozen HR.out 0; have y1 := blk_frozen HR.out 1; have y2 := blk_frozen HR.out 2; have y3 := blk_frozen HR.out 3; have HB := Aside0.mk (below_step (by repeat (first | exact Below.refl _ _ | apply below_alloc)) hb : Below w.heap.size w w1); clear hb)
  refine bodyPost_ret (results_ct rfl _ _ (w.heap.size + 1) 24 #[.int .i64 0, .int .i64 0, .int .i64 0, .int .i64 0] (0, 0) _ rfl (blk_put (blk_put (blk_put (blk_put HR.out 0 _ rfl) 1 _ rfl) 2 _ rfl) 3 _ rfl) Try.underlying24 rfl (by kernel_rfl)) rfl ?_
  exact ⟨rfl, by repeat (first | exact HB.out | (refine below_set ?_ (by omega)))⟩
set_option maxHeartbeats 8000000 in
set_option maxRecDepth 100000 in
theorem store_Load_nil (w : World) (p0 p1 p2 p3 size : Int) (ptr : Bool) :
    Calls Try.prog 11 #[.pointer none, .agg #[.int .i64 p0, .int .i64 p1, .int .i64 p2, .int .i64 p3], .int .i64 size, .bool ptr] w fun e w' => e = .returned (.tuple #[.agg #[.int .u32 0, .int .i64 0, .int .i64 0, .int .i64 0, .int .i64 0, .bool false], .int .i64 1]) ∧ Below w.heap.size w w' := by
  have hu24 := Try.underlying24
  have hu26 := Try.underlying26
  go_enter Try.func11, Try.ntmps11
  go_wp2_with (go_at_call 19; (with_reducible refine (store_place_nil _ p0 p1 p2 p3 size ptr).mono ?_); rintro e w1 ⟨rfl, hb⟩; have HR := Aside0.mk ((hb.block (w.heap.size + 1) (by simp [World.size_alloc])).trans (store_second w _ _)); have r0 : w1.cell? ⟨w.heap.size + 1, 0, none⟩ = some (.int .u32 0) := (blk_cell HR.out 0).trans rfl; have y0 := blk_frozen HR.out 0; have r1 : w1.cell? ⟨w.heap.size + 1, 1, none⟩ = some (.int .i64 0) := (blk_cell HR.out 1).trans rfl; have y1 := blk_frozen HR.out 1; have r2 : w1.cell? ⟨w.heap.size + 1, 2, none⟩ = some (.int .i64 0) := (blk_cell HR.out 2).trans rfl; have y2 := blk_frozen HR.out 2; have r3 : w1.cell? ⟨w.heap.size + 1, 3, none⟩ = some (.int .i64 0) := (blk_cell HR.out 3).trans rfl; have y3 := blk_frozen HR.out 3; have r4 : w1.cell? ⟨w.heap.size + 1, 4, none⟩ = some (.int .i64 0) := (blk_cell HR.out 4).trans rfl; have y4 := blk_frozen HR.out 4; have r5 : w1.cell? ⟨w.heap.size + 1, 5, none⟩ = some (.bool false) := (blk_cell HR.out 5).trans rfl; have y5 := blk_frozen HR.out 5; have HB := Aside0.mk (below_step (by repeat (first | exact Below.refl _ _ | apply below_alloc)) hb : Below w.heap.size w w1); clear hb)
  refine bodyPost_ret (results_ct rfl _ _ (w.heap.size + 1) 26 #[.int .u32 0, .int .i64 0, .int .i64 0, .int .i64 0, .int .i64 0, .bool false] (0, 0) _ rfl (blk_put (blk_put (blk_put (blk_put (blk_put (blk_put HR.out 0 _ rfl) 1 _ rfl) 2 _ rfl) 3 _ rfl) 4 _ rfl) 5 _ rfl) Try.underlying26 rfl (by kernel_rfl)) rfl ?_
  exact ⟨rfl, by repeat (first | exact HB.out | (refine below_set ?_ (by omega)))⟩
set_option maxHeartbeats 8000000 in
set_option maxRecDepth 100000 in
theorem store_object_nil (w : World) (n : Int) :
    Calls Try.prog 21 #[.pointer none, .int .i64 n] w fun e w' => e = .returned (.tuple #[.pointer none, .int .i64 1]) ∧ w' = w := by
  go_enter Try.func21, Try.ntmps21
  go_wp2
  refine bodyPost_ret (v := .tuple #[.pointer none, .int .i64 1]) (by simp [results, Try.results21, go_sem]) rfl ?_
  exact ⟨rfl, rfl⟩
set_option maxHeartbeats 8000000 in
set_option maxRecDepth 100000 in
theorem store_Fill_nil (w : World) (n : Int) (v : Value) :
    Calls Try.prog 12 #[.pointer none, .int .i64 n, v] w fun e w' => e = .returned (.int .i64 1) ∧ w' = w := by
  go_enter Try.func12, Try.ntmps12
  go_wp2_with (go_at_call 21; (with_reducible refine (store_object_nil _ n).mono ?_); rintro e w1 ⟨rfl, rfl⟩)
  go_ret
  exact ⟨rfl, rfl⟩
set_option maxHeartbeats 8000000 in
set_option maxRecDepth 100000 in
theorem store_Unset_nil (w : World) (n : Int) :
    Calls Try.prog 14 #[.pointer none, .int .i64 n] w fun e w' => e = .returned (.int .i64 1) ∧ w' = w := by
  go_enter Try.func14, Try.ntmps14
  go_wp2_with (go_at_call 21; (with_reducible refine (store_object_nil _ n).mono ?_); rintro e w1 ⟨rfl, rfl⟩)
  go_ret
  exact ⟨rfl, rfl⟩
set_option maxHeartbeats 8000000 in
set_option maxRecDepth 100000 in
theorem store_Drop_nil (w : World) (n : Int) :
    Calls Try.prog 15 #[.pointer none, .int .i64 n] w fun e w' => e = .returned (.int .i64 1) ∧ w' = w := by
  go_enter Try.func15, Try.ntmps15
  go_wp2_with (go_at_call 21; (with_reducible refine (store_object_nil _ n).mono ?_); rintro e w1 ⟨rfl, rfl⟩)
  go_ret
  exact ⟨rfl, rfl⟩
set_option maxHeartbeats 8000000 in
set_option maxRecDepth 100000 in
theorem store_Count_nil (w : World) :
    Calls Try.prog 17 #[.pointer none] w fun e w' => e = .returned (.int .i64 0) ∧ w' = w := by
  go_enter Try.func17, Try.ntmps17
  go_wp2
  go_ret
  exact ⟨rfl, rfl⟩
end Go.Proofs.Ytplafnaocgifoaa.St
