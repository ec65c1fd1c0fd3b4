/- StoreQ: functions of the program walked by hand, and what they come to. -/
import Derived.Test.YtplafnaocgifoaaProg
import Derived.Below
import Derived.Deep.Draws
import Derived.Deep.AppendLies
import Derived.Maps.AppendAt
import Derived.OwnWalk
import Derived.Laws.BytesArg
import Derived.Laws.MakeOwn
import Derived.Laws.OwnMore
import Derived.Deep.OwnRows
import Derived.Tactics
import Derived.Lib.ConvBytes
import Derived.Laws.Slices
import Derived.WalkKit
import Derived.KernelRfl
import Derived.RowKit3
import Derived.Deep.LoopGhost
import Derived.Deep.QuietTactic
import Derived.BigQuiet
import Derived.WideLaws
import Derived.Deep.DeepCutAuto
import Derived.Deep.CutBlock
import Derived.Deep.RegionHeld3
import Derived.Laws.Rows
import Derived.Lib.AppendStr
import Derived.ArgAppend
import Derived.Laws.IdiomCopy
import Derived.OrdersHeld
import Derived.Laws.BitsLemmas
import Derived.RowKit
import Derived.Test.YtplafnaocgifoaaWWords
import Derived.Test.YtplafnaocgifoaaWLast
import Derived.Test.YtplafnaocgifoaaWTab
import Derived.Test.YtplafnaocgifoaaWFour
import Derived.Test.YtplafnaocgifoaaWQPut
import Derived.Test.YtplafnaocgifoaaWApart
import Derived.Test.YtplafnaocgifoaaWArr
import Derived.Test.YtplafnaocgifoaaWZeros
import Derived.Test.YtplafnaocgifoaaWFoot
import Derived.Test.YtplafnaocgifoaaWKept
import Derived.Test.YtplafnaocgifoaaWShare
import Derived.Test.YtplafnaocgifoaaWN
import Derived.Test.YtplafnaocgifoaaWFootNe
import Derived.Test.YtplafnaocgifoaaWAt
import Derived.Test.YtplafnaocgifoaaWEqStruct
import Derived.Test.YtplafnaocgifoaaWRepsOne
import Derived.Test.YtplafnaocgifoaaWInv
import Derived.Test.YtplafnaocgifoaaWInvWords
import Derived.Test.YtplafnaocgifoaaWGuard
import Derived.Test.YtplafnaocgifoaaWNEv
import Derived.Test.YtplafnaocgifoaaWMore
import Derived.Test.YtplafnaocgifoaaSt0
import Derived.Test.YtplafnaocgifoaaStoreP
import Derived.Test.YtplafnaocgifoaaStoreJ
import Derived.Test.YtplafnaocgifoaaStoreG
import Derived.Outline
set_option linter.all false
namespace Go.Proofs.Ytplafnaocgifoaa.St
open Go.RowKit Go.Proofs.YtplafnaocgifoaaW.PrintWords Go.Proofs.YtplafnaocgifoaaW.PrintLast Go.Proofs.YtplafnaocgifoaaW.PrintMore
set_option linter.unusedVariables false
theorem store_set1 {w : World} {b : Nat} {c0 c1 c2 c3 c4 c5 : Value} {t : TypeId} (h : w.heap[b]? = some (.cells #[c0, c1, c2, c3, c4, c5] t (0, 0))) (u : Value) : (w.setCell ⟨b, 0, none⟩ u).heap[b]? = some (.cells #[u, c1, c2, c3, c4, c5] t (0, 0)) := blk_put h 0 u rfl
theorem store_set4 {w : World} {b : Nat} {c0 c1 c2 c3 c4 c5 : Value} {t : TypeId} (h : w.heap[b]? = some (.cells #[c0, c1, c2, c3, c4, c5] t (0, 0))) (u1 u2 u3 u4 : Value) : ((((w.setCell ⟨b, 1, none⟩ u1).setCell ⟨b, 2, none⟩ u2).setCell ⟨b, 3, none⟩ u3).setCell ⟨b, 4, none⟩ u4).heap[b]? = some (.cells #[c0, u1, u2, u3, u4, c5] t (0, 0)) :=
  blk_put (cs := #[c0, u1, u2, u3, c4, c5]) (blk_put (cs := #[c0, u1, u2, c3, c4, c5]) (blk_put (cs := #[c0, u1, c2, c3, c4, c5]) (blk_put h 1 u1 rfl) 2 u2 rfl) 3 u3 rfl) 4 u4 rfl
theorem store_far1 {w : World} {b k : Nat} {cs : Array Value} {t : TypeId} (n : b ≠ k) (h : w.heap[b]? = some (.cells cs t (0, 0))) (u : Value) : (w.setCell ⟨k, 0, none⟩ u).heap[b]? = some (.cells cs t (0, 0)) := blk_far h (p := ⟨k, 0, none⟩) n u
theorem store_far4 {w : World} {b k : Nat} {cs : Array Value} {t : TypeId} (n : b ≠ k) (h : w.heap[b]? = some (.cells cs t (0, 0))) (u1 u2 u3 u4 : Value) : ((((w.setCell ⟨k, 1, none⟩ u1).setCell ⟨k, 2, none⟩ u2).setCell ⟨k, 3, none⟩ u3).setCell ⟨k, 4, none⟩ u4).heap[b]? = some (.cells cs t (0, 0)) :=
  blk_far (blk_far (blk_far (blk_far h (p := ⟨k, 1, none⟩) n u1) (p := ⟨k, 2, none⟩) n u2) (p := ⟨k, 3, none⟩) n u3) (p := ⟨k, 4, none⟩) n u4
theorem store_size_set (w : World) (a : Addr) (v : Value) : (w.setCell a v).heap.size = w.heap.size := by simp [World.setCell]
theorem store_Back_reads1 (N A : Nat) (x : Int) (q : S24) (vi : Bool) (y : Int) (r : S24) (wi : Bool) (h : A + 8 ≤ N) :
    (vi = true → store_put (store_put (fun _ => z24) (A : Int) q vi) ((A + 4 : Nat) : Int) r wi (A : Int) = q) ∧ (∀ j, j < 4 → (store_wr (store_wr (List.replicate N 0) A (if vi then 0 else x) 4) (A + 4) (if wi then 0 else y) 4)[A + j]? = some ((if vi then 0 else x) / 2 ^ (8 * j) % 256)) ∧ (∀ j, j < 4 → (store_on (store_on (List.replicate N false) A 4) (A + 4) 4)[A + j]? = some true) := by
  refine ⟨?_, ?_, ?_⟩
  · rintro rfl
    rw [show ((A + 4 : Nat) : Int) = (A : Int) + 4 by omega]
    exact store_put_other _ _ _ _ _
  · intro j hj
    rw [store_wr_far _ _ _ _ _ (by omega), store_wr_at _ _ _ _ _ hj (by simp; omega)]
  · intro j hj
    rw [store_on_far _ _ _ _ (by omega), store_on_at _ _ _ _ hj (by simp; omega)]
theorem store_Back_reads2 (N A : Nat) (x : Int) (q : S24) (vi : Bool) (y : Int) (r : S24) (wi : Bool) (h : A + 8 ≤ N) :
    (wi = true → store_put (store_put (fun _ => z24) (A : Int) q vi) ((A + 4 : Nat) : Int) r wi ((A + 4 : Nat) : Int) = r) ∧ (∀ j, j < 4 → (store_wr (store_wr (List.replicate N 0) A (if vi then 0 else x) 4) (A + 4) (if wi then 0 else y) 4)[A + 4 + j]? = some ((if wi then 0 else y) / 2 ^ (8 * j) % 256)) ∧ (∀ j, j < 4 → (store_on (store_on (List.replicate N false) A 4) (A + 4) 4)[A + 4 + j]? = some true) := by
  refine ⟨?_, ?_, ?_⟩
  · rintro rfl
    exact store_put_same _ _ _
  · intro j hj
    rw [store_wr_at _ _ _ _ _ hj (by rw [store_wr_length]; simp; omega)]
  · intro j hj
    rw [store_on_at _ _ _ _ hj (by rw [store_on_length]; simp; omega)]
set_option maxHeartbeats 8000000 in
set_option maxRecDepth 100000 in
theorem store_Back_bad1 (w : World) (n at_ : Int) (x : Int) (q : S24) (vi : Bool) (y : Int) (r : S24) (wi : Bool) (b1 : decide (n < 8) = true) :
    Calls Try.prog 3 #[.agg #[.int .i64 n, .int .i64 at_, .int .u32 x, .int .i64 q.f0, .int .i64 q.f1, .int .i64 q.f2, .int .i64 q.f3, .bool vi, .int .u32 y, .int .i64 r.f0, .int .i64 r.f1, .int .i64 r.f2, .int .i64 r.f3, .bool wi]] w fun e w' => e = .returned (.bool true) ∧ Below w.heap.size w w' := by
  have hu28 := Try.underlying28
  have hu24 := Try.underlying24
  have hu26 := Try.underlying26
  go_enter Try.func3, Try.ntmps3
  go_upto_region 1 with (fail)
  go_region
  all_goals (
    go_wp2_with (go_at_call 6; (with_reducible refine (law11_awake _).mono ?_); rintro e w2 ⟨rfl, hb⟩; have B2 := Aside0.mk (below_step (below_drew (below_alloc (below_alloc (below_alloc (Below.refl w.heap.size w) _) _) _)) hb); clear hb)
    go_ret
    exact ⟨rfl, B2.out⟩)
set_option maxHeartbeats 8000000 in
set_option maxRecDepth 100000 in
theorem store_Back_bad2 (w : World) (n at_ : Int) (x : Int) (q : S24) (vi : Bool) (y : Int) (r : S24) (wi : Bool) (b1 : decide (n < 8) = false) (b2 : decide (300 < n) = true) :
    Calls Try.prog 3 #[.agg #[.int .i64 n, .int .i64 at_, .int .u32 x, .int .i64 q.f0, .int .i64 q.f1, .int .i64 q.f2, .int .i64 q.f3, .bool vi, .int .u32 y, .int .i64 r.f0, .int .i64 r.f1, .int .i64 r.f2, .int .i64 r.f3, .bool wi]] w fun e w' => e = .returned (.bool true) ∧ Below w.heap.size w w' := by
  have hu28 := Try.underlying28
  have hu24 := Try.underlying24
  have hu26 := Try.underlying26
  go_enter Try.func3, Try.ntmps3
  go_upto_region 1 with (fail)
  go_region
  all_goals (
    go_wp2_with (go_at_call 6; (with_reducible refine (law11_awake _).mono ?_); rintro e w2 ⟨rfl, hb⟩; have B2 := Aside0.mk (below_step (below_drew (below_alloc (below_alloc (below_alloc (Below.refl w.heap.size w) _) _) _)) hb); clear hb)
    go_ret
    exact ⟨rfl, B2.out⟩)
set_option maxHeartbeats 8000000 in
set_option maxRecDepth 100000 in
theorem store_Back_bad3 (w : World) (n at_ : Int) (x : Int) (q : S24) (vi : Bool) (y : Int) (r : S24) (wi : Bool) (b1 : decide (n < 8) = false) (b2 : decide (300 < n) = false) (b3 : decide (at_ < 0) = true) :
    Calls Try.prog 3 #[.agg #[.int .i64 n, .int .i64 at_, .int .u32 x, .int .i64 q.f0, .int .i64 q.f1, .int .i64 q.f2, .int .i64 q.f3, .bool vi, .int .u32 y, .int .i64 r.f0, .int .i64 r.f1, .int .i64 r.f2, .int .i64 r.f3, .bool wi]] w fun e w' => e = .returned (.bool true) ∧ Below w.heap.size w w' := by
  have hu28 := Try.underlying28
  have hu24 := Try.underlying24
  have hu26 := Try.underlying26
  go_enter Try.func3, Try.ntmps3
  go_upto_region 1 with (fail)
  go_region
  all_goals (
    go_wp2_with (go_at_call 6; (with_reducible refine (law11_awake _).mono ?_); rintro e w2 ⟨rfl, hb⟩; have B2 := Aside0.mk (below_step (below_drew (below_alloc (below_alloc (below_alloc (Below.refl w.heap.size w) _) _) _)) hb); clear hb)
    go_ret
    exact ⟨rfl, B2.out⟩)
set_option maxHeartbeats 8000000 in
set_option maxRecDepth 100000 in
theorem store_Back_bad4 (w : World) (n at_ : Int) (x : Int) (q : S24) (vi : Bool) (y : Int) (r : S24) (wi : Bool) (b1 : decide (n < 8) = false) (b2 : decide (300 < n) = false) (b3 : decide (at_ < 0) = false) (s1 : IntKind.i64.wrap (n - 8) = n - 8) (b4 : decide (n - 8 < at_) = true) :
    Calls Try.prog 3 #[.agg #[.int .i64 n, .int .i64 at_, .int .u32 x, .int .i64 q.f0, .int .i64 q.f1, .int .i64 q.f2, .int .i64 q.f3, .bool vi, .int .u32 y, .int .i64 r.f0, .int .i64 r.f1, .int .i64 r.f2, .int .i64 r.f3, .bool wi]] w fun e w' => e = .returned (.bool true) ∧ Below w.heap.size w w' := by
  have hu28 := Try.underlying28
  have hu24 := Try.underlying24
  have hu26 := Try.underlying26
  go_enter Try.func3, Try.ntmps3
  go_upto_region 1 with (fail)
  go_region
  all_goals (
    go_wp2_with (go_at_call 6; (with_reducible refine (law11_awake _).mono ?_); rintro e w2 ⟨rfl, hb⟩; have B2 := Aside0.mk (below_step (below_drew (below_alloc (below_alloc (below_alloc (Below.refl w.heap.size w) _) _) _)) hb); clear hb)
    go_ret
    exact ⟨rfl, B2.out⟩)
end Go.Proofs.Ytplafnaocgifoaa.St
