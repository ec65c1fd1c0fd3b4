/- StoreJ: functions of the program walked by hand, and what they come to. -/
import Derived.Test.YtplafnaocgifoaaProg
import Derived.Below
import Derived.Deep.Draws
import Derived.Deep.AppendLies
import Derived.Maps.AppendAt
import Derived.OwnWalk
import Derived.Laws.BytesArg
import Derived.Laws.MakeOwn
import Derived.Laws.OwnMore
import Derived.Deep.OwnRows
import Derived.Tactics
import Derived.Lib.ConvBytes
import Derived.Laws.Slices
import Derived.WalkKit
import Derived.KernelRfl
import Derived.RowKit3
import Derived.Deep.LoopGhost
import Derived.Deep.QuietTactic
import Derived.BigQuiet
import Derived.WideLaws
import Derived.Deep.DeepCutAuto
import Derived.Deep.CutBlock
import Derived.Deep.RegionHeld3
import Derived.Laws.Rows
import Derived.Lib.AppendStr
import Derived.ArgAppend
import Derived.Laws.IdiomCopy
import Derived.OrdersHeld
import Derived.Laws.BitsLemmas
import Derived.RowKit
import Derived.Test.YtplafnaocgifoaaWWords
import Derived.Test.YtplafnaocgifoaaWLast
import Derived.Test.YtplafnaocgifoaaWTab
import Derived.Test.YtplafnaocgifoaaWFour
import Derived.Test.YtplafnaocgifoaaWQPut
import Derived.Test.YtplafnaocgifoaaWApart
import Derived.Test.YtplafnaocgifoaaWArr
import Derived.Test.YtplafnaocgifoaaWZeros
import Derived.Test.YtplafnaocgifoaaWFoot
import Derived.Test.YtplafnaocgifoaaWKept
import Derived.Test.YtplafnaocgifoaaWShare
import Derived.Test.YtplafnaocgifoaaWN
import Derived.Test.YtplafnaocgifoaaWFootNe
import Derived.Test.YtplafnaocgifoaaWAt
import Derived.Test.YtplafnaocgifoaaWEqStruct
import Derived.Test.YtplafnaocgifoaaWRepsOne
import Derived.Test.YtplafnaocgifoaaWInv
import Derived.Test.YtplafnaocgifoaaWInvWords
import Derived.Test.YtplafnaocgifoaaWGuard
import Derived.Test.YtplafnaocgifoaaWNEv
import Derived.Test.YtplafnaocgifoaaWMore
import Derived.Test.YtplafnaocgifoaaSt0
import Derived.Test.YtplafnaocgifoaaStoreG
import Derived.Test.YtplafnaocgifoaaStoreI
import Derived.Test.YtplafnaocgifoaaStoreE
import Derived.Test.YtplafnaocgifoaaStoreF
import Derived.Outline
set_option linter.all false
namespace Go.Proofs.Ytplafnaocgifoaa.St
open Go.RowKit Go.Proofs.YtplafnaocgifoaaW.PrintWords Go.Proofs.YtplafnaocgifoaaW.PrintLast Go.Proofs.YtplafnaocgifoaaW.PrintMore
set_option linter.unusedVariables false
theorem store_cells4 {w : World} {b : Nat} {c0 c1 c2 c3 : Value} {t : TypeId} (h : w.heap[b]? = some (.cells #[c0, c1, c2, c3] t (0, 0))) : w.cell? ⟨b, 0, none⟩ = some c0 ∧ w.cell? ⟨b, 1, none⟩ = some c1 ∧ w.cell? ⟨b, 2, none⟩ = some c2 ∧ w.cell? ⟨b, 3, none⟩ = some c3 :=
  ⟨(blk_cell h 0).trans rfl, (blk_cell h 1).trans rfl, (blk_cell h 2).trans rfl, (blk_cell h 3).trans rfl⟩
theorem store_cells6 {w : World} {b : Nat} {c0 c1 c2 c3 c4 c5 : Value} {t : TypeId} (h : w.heap[b]? = some (.cells #[c0, c1, c2, c3, c4, c5] t (0, 0))) : w.cell? ⟨b, 0, none⟩ = some c0 ∧ w.cell? ⟨b, 1, none⟩ = some c1 ∧ w.cell? ⟨b, 2, none⟩ = some c2 ∧ w.cell? ⟨b, 3, none⟩ = some c3 ∧ w.cell? ⟨b, 4, none⟩ = some c4 ∧ w.cell? ⟨b, 5, none⟩ = some c5 :=
  ⟨(blk_cell h 0).trans rfl, (blk_cell h 1).trans rfl, (blk_cell h 2).trans rfl, (blk_cell h 3).trans rfl, (blk_cell h 4).trans rfl, (blk_cell h 5).trans rfl⟩
/-- the four bytes of 7, put at 4 -/
theorem store_awake_bytes : (∀ j, j < 4 → (store_wr (List.replicate 8 0) 4 7 4)[4 + j]? = some ((fun i : Nat => if i = 0 then (7 : Int) else 0) j)) ∧ (∀ j, j < 4 → (store_on (List.replicate 8 false) 4 4)[4 + j]? = some true) ∧ (store_on (List.replicate 8 false) 4 4)[0]? = some false := by
  refine ⟨?_, ?_, ?_⟩ <;> decide
theorem store_awake_seven : store_ldv (fun i : Nat => if i = 0 then (7 : Int) else 0) 4 = 7 := by decide
set_option maxHeartbeats 8000000 in
set_option maxRecDepth 100000 in
theorem law11_awake (w : World) : Calls Try.prog 6 #[] w fun e w' => e = .returned (.bool true) ∧ Below w.heap.size w w' := by
  have hu24 := Try.underlying24
  have hu26 := Try.underlying26
  go_enter Try.func6, Try.ntmps6
  go_upto_region 5 with (first | (go_at_call 7; (with_reducible refine (store_New_calls _).mono ?_); rintro e w1 ⟨rfl, rfl⟩) | (go_at_call 8; refine (store_Make_one w _ w.heap.size 8 ?a1 ?a2 ?a3 ?a4 ?a5).mono ?_; (case a1 => exact blk_new w _); (case a2 => exact Nat.le_refl _); (case a3 => exact below_alloc (Below.refl _ _) _); (case a4 => decide); (case a5 => decide); rintro e w2 ⟨rfl, lb, cap, db, tb, hO, hsame, hsz⟩; have H2 := Aside0.mk hO; have n2 : w.heap.size < w2.heap.size := (by simp [World.size_alloc] at hsz; omega); clear hO hsame hsz) | (go_at_call_of 9 (Value.int IntKind.i64 4); (with_reducible refine (store_Move_ob w _ w.heap.size lb cap db tb 8 0 none (fun _ => z24) (List.replicate 8 0) (List.replicate 8 false) ?b1 0 8 0 4 (by decide) (by decide) (by decide) (by decide) (by decide)).mono ?_); (case b1 => exact H2.out.step (below_alloc (Below.refl _ _) _)); rintro e w3 ⟨rfl, hb⟩; have H3 := Aside0.mk ((H2.out.step (below_alloc (Below.refl _ _) (.cells #[.int .i64 1, .int .i64 0, .int .i64 8, .int .i64 0] 24))).step hb); have P3 := Aside0.mk (blk_below (blk_new w2 (.cells #[.int .i64 1, .int .i64 0, .int .i64 8, .int .i64 0] 24)) hb); have n3 : w2.heap.size < w3.heap.size := (by have := hb.size; simp [World.size_alloc] at this; omega); clear hb) | (go_at_call 10; refine (store_Put_num w _ w.heap.size lb cap db tb 8 0 4 none (fun _ => z24) (List.replicate 8 0) (List.replicate 8 false) ?c1 0 8 7 z24 (by decide) (by decide) (by decide) (by decide) (by decide) (by decide)).mono ?_; (case c1 => exact H3.out.step (below_alloc (Below.refl _ _) _)); rintro e w4 ⟨rfl, hO, hK, hZ⟩; have H4 := Aside0.mk hO; have P4 := Aside0.mk (hK _ _ _ (blk_alloc P3.out (.cells #[.int .i64 1, .int .i64 0, .int .i64 8, .int .i64 4] 24)) (by decide) (by decide) (by decide)); have Q4 := Aside0.mk (hK _ _ _ (blk_new w3 (.cells #[.int .i64 1, .int .i64 0, .int .i64 8, .int .i64 4] 24)) (by decide) (by decide) (by decide)); have n4 : w3.heap.size < w4.heap.size := (by simp [World.size_alloc] at hZ; omega); clear hO hK hZ))
  generalize hg4 : store_gone (fun _ => z24) (((4 : Nat) : Int) - 3) (((4 : Nat) : Int) + 4) = g4 at H4
  generalize hd4 : store_wr (List.replicate 8 0) 4 7 4 = d4 at H4
  generalize ht4 : store_on (List.replicate 8 false) 4 4 = t4 at H4
  have HD4 := Aside0.mk hd4
  have HT4 := Aside0.mk ht4
  clear hg4 hd4 ht4 H2 H3 P3
  obtain ⟨q0, q1, q2, q3⟩ := store_cells4 Q4.out
  go_upto_region 6 with (go_at_call 11; refine (store_Load_num_ob w _ w.heap.size lb cap db tb 8 0 4 none g4 d4 t4 ?d1 0 8 (fun i : Nat => if i = 0 then (7 : Int) else 0) (by decide) (by decide) (by decide) (by decide) (by decide) (by rw [← HD4.out]; exact store_awake_bytes.1) (by rw [← HT4.out]; exact store_awake_bytes.2.1)).mono ?_; (case d1 => exact H4.out); rintro e w5 ⟨rfl, hb⟩; rw [store_awake_seven]; have H5 := Aside0.mk (H4.out.step hb); have P5 := Aside0.mk (blk_below P4.out hb); have n5 : w3.heap.size < w5.heap.size := (by have := hb.size; omega); clear hb)
  clear q0 q1 q2 q3
  have m5 : w2.heap.size < w5.heap.size := by omega
  obtain ⟨p0, p1, p2, p3⟩ := store_cells4 P5.out
  go_upto_region 7 with (go_at_call 11; refine (store_Load_unset w _ w.heap.size lb cap db tb 8 0 0 none g4 d4 t4 0 8 ?d1 (by decide) (by decide) (by decide) (by decide) (by decide) (by rw [← HT4.out]; exact store_awake_bytes.2.2)).mono ?_; (case d1 => exact H5.out.step (below_alloc (Below.refl _ _) _)); rintro e w6 ⟨rfl, hb⟩; have H6 := Aside0.mk ((H5.out.step (below_alloc (Below.refl _ _) (.cells #[.int .u32 7, .int .i64 0, .int .i64 0, .int .i64 0, .int .i64 0, .bool false] 26))).step hb); have P6 := Aside0.mk (blk_below (blk_alloc P5.out (.cells #[.int .u32 7, .int .i64 0, .int .i64 0, .int .i64 0, .int .i64 0, .bool false] 26)) hb); have V6 := Aside0.mk (blk_below (blk_new w5 (.cells #[.int .u32 7, .int .i64 0, .int .i64 0, .int .i64 0, .int .i64 0, .bool false] 26)) hb); have n6 : w5.heap.size < w6.heap.size := (by have := hb.size; simp [World.size_alloc] at this; omega); clear hb)
  clear p0 p1 p2 p3
  obtain ⟨p0, p1, p2, p3⟩ := store_cells4 P6.out
  have m6 : w2.heap.size < w6.heap.size := by omega
  go_upto_region 8 with (go_at_call 9; refine (store_Move_ob w _ w.heap.size lb cap db tb 8 0 none g4 d4 t4 ?b1 0 8 0 8 (by decide) (by decide) (by decide) (by decide) (by decide)).mono ?_; (case b1 => exact H6.out.step (below_alloc (Below.refl _ _) _)); rintro e w7 ⟨rfl, hb⟩; have H7 := Aside0.mk ((H6.out.step (below_alloc (Below.refl _ _) (.cells #[.int .u32 0, .int .i64 0, .int .i64 0, .int .i64 0, .int .i64 0, .bool false] 26))).step hb); have V7 := Aside0.mk (blk_below (blk_alloc V6.out (.cells #[.int .u32 0, .int .i64 0, .int .i64 0, .int .i64 0, .int .i64 0, .bool false] 26)) hb); have n7 : w5.heap.size < w7.heap.size := (by have := hb.size; simp [World.size_alloc] at this; omega); clear hb)
  clear p0 p1 p2 p3
  go_upto_region 9 with (go_at_call 11; refine (store_Load_bound w _ w.heap.size lb cap db tb 8 0 8 none g4 d4 t4 0 8 ?d1 (by decide) (by decide) (by decide)).mono ?_; (case d1 => exact H7.out.step (below_alloc (Below.refl _ _) _)); rintro e w8 ⟨rfl, hb⟩; have H8 := Aside0.mk ((H7.out.step (below_alloc (Below.refl _ _) (.cells #[.int .i64 1, .int .i64 0, .int .i64 8, .int .i64 8] 24))).step hb); have V8 := Aside0.mk (blk_below (blk_alloc V7.out (.cells #[.int .i64 1, .int .i64 0, .int .i64 8, .int .i64 8] 24)) hb); have n8 : w5.heap.size < w8.heap.size := (by have := hb.size; simp [World.size_alloc] at this; omega); clear hb)
  obtain ⟨v0, v1, v2, v3, v4, v5⟩ := store_cells6 V8.out
  go_wp2
  trace_state
  go_ret
  exact ⟨rfl, below_alloc H8.out.below _⟩
end Go.Proofs.Ytplafnaocgifoaa.St
