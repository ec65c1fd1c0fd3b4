/- StoreS: functions of the program walked by hand, and what they come to. -/
import Derived.Test.YtplafnaocgifoaaProg
import Derived.Below
import Derived.Deep.Draws
import Derived.Deep.AppendLies
import Derived.Maps.AppendAt
import Derived.OwnWalk
import Derived.Laws.BytesArg
import Derived.Laws.MakeOwn
import Derived.Laws.OwnMore
import Derived.Deep.OwnRows
import Derived.Tactics
import Derived.Lib.ConvBytes
import Derived.Laws.Slices
import Derived.WalkKit
import Derived.KernelRfl
import Derived.RowKit3
import Derived.Deep.LoopGhost
import Derived.Deep.QuietTactic
import Derived.BigQuiet
import Derived.WideLaws
import Derived.Deep.DeepCutAuto
import Derived.Deep.CutBlock
import Derived.Deep.RegionHeld3
import Derived.Laws.Rows
import Derived.Lib.AppendStr
import Derived.ArgAppend
import Derived.Laws.IdiomCopy
import Derived.OrdersHeld
import Derived.Laws.BitsLemmas
import Derived.RowKit
import Derived.Test.YtplafnaocgifoaaWWords
import Derived.Test.YtplafnaocgifoaaWLast
import Derived.Test.YtplafnaocgifoaaWTab
import Derived.Test.YtplafnaocgifoaaWFour
import Derived.Test.YtplafnaocgifoaaWQPut
import Derived.Test.YtplafnaocgifoaaWApart
import Derived.Test.YtplafnaocgifoaaWArr
import Derived.Test.YtplafnaocgifoaaWZeros
import Derived.Test.YtplafnaocgifoaaWFoot
import Derived.Test.YtplafnaocgifoaaWKept
import Derived.Test.YtplafnaocgifoaaWShare
import Derived.Test.YtplafnaocgifoaaWN
import Derived.Test.YtplafnaocgifoaaWFootNe
import Derived.Test.YtplafnaocgifoaaWAt
import Derived.Test.YtplafnaocgifoaaWEqStruct
import Derived.Test.YtplafnaocgifoaaWRepsOne
import Derived.Test.YtplafnaocgifoaaWInv
import Derived.Test.YtplafnaocgifoaaWInvWords
import Derived.Test.YtplafnaocgifoaaWGuard
import Derived.Test.YtplafnaocgifoaaWNEv
import Derived.Test.YtplafnaocgifoaaWMore
import Derived.Test.YtplafnaocgifoaaSt0
import Derived.Test.YtplafnaocgifoaaStoreR
import Derived.Test.YtplafnaocgifoaaStoreJ
import Derived.Test.YtplafnaocgifoaaStoreG
import Derived.Outline
set_option linter.all false
namespace Go.Proofs.Ytplafnaocgifoaa.St
open Go.RowKit Go.Proofs.YtplafnaocgifoaaW.PrintWords Go.Proofs.YtplafnaocgifoaaW.PrintLast Go.Proofs.YtplafnaocgifoaaW.PrintMore
set_option linter.unusedVariables false
theorem store_Part_ob (w0 w : World) (sb lb cap db tb n m : Nat) (mp : Option Nat) (g : Int → S24) (data : List Int) (set : List Bool) (h : store_Ob w0 w sb lb cap db tb n mp m g data set) (at_ size : Int) (h1 : 1 ≤ size) (h2 : 0 ≤ at_) (h3 : at_ + size ≤ n) (h5 : n ≤ 1000000) :
    Calls Try.prog 13 #[.pointer (some ⟨sb, 0, none⟩), .agg #[.int .i64 1, .int .i64 0, .int .i64 n, .int .i64 0], .int .i64 at_, .int .i64 size] w fun e w' => e = .returned (.tuple #[.agg #[.int .i64 1, .int .i64 at_, .int .i64 (at_ + size), .int .i64 at_], .int .i64 0]) ∧ Below w.heap.size w w' := by
  obtain ⟨cs, l1, l2, l3, l4, l5⟩ := h.l
  exact store_Part.one w sb lb cap cs n at_ size h.s l1 l5 h1 h2 h3 (by omega)
theorem store_fill_row (w : World) (o : Obj) (N : Nat) : ((w.alloc o).alloc (.cells (madeCells #[.int .u8 0] N) 5)).heap[w.heap.size + 1]? = some (.cells (nums .u8 (List.replicate N 0)).toArray 5 (0, 0)) := by
  have e : madeCells #[.int .u8 0] N = (nums .u8 (List.replicate N 0)).toArray := by
    apply Array.ext'
    rw [toList_madeCells_one]; simp [nums]
  rw [← e]
  exact store_second w _ _
set_option maxHeartbeats 8000000 in
set_option maxRecDepth 100000 in
theorem store_Gone_bad1 (w : World) (n at_ part : Int) (b1 : decide (n < 1) = true) :
    Calls Try.prog 4 #[.int .i64 n, .int .i64 at_, .int .i64 part] w fun e w' => e = .returned (.bool true) ∧ Below w.heap.size w w' := by
  go_enter Try.func4, Try.ntmps4
  go_wp2_with (go_at_call 6; (with_reducible refine (law11_awake _).mono ?_); rintro e w2 ⟨rfl, hb⟩; have B2 := Aside0.mk hb; clear hb)
  go_ret
  exact ⟨rfl, B2.out⟩
set_option maxHeartbeats 8000000 in
set_option maxRecDepth 100000 in
theorem store_Gone_bad2 (w : World) (n at_ part : Int) (b1 : decide (n < 1) = false) (b2 : decide (300 < n) = true) :
    Calls Try.prog 4 #[.int .i64 n, .int .i64 at_, .int .i64 part] w fun e w' => e = .returned (.bool true) ∧ Below w.heap.size w w' := by
  go_enter Try.func4, Try.ntmps4
  go_wp2_with (go_at_call 6; (with_reducible refine (law11_awake _).mono ?_); rintro e w2 ⟨rfl, hb⟩; have B2 := Aside0.mk hb; clear hb)
  go_ret
  exact ⟨rfl, B2.out⟩
set_option maxHeartbeats 8000000 in
set_option maxRecDepth 100000 in
theorem store_Gone_bad3 (w : World) (n at_ part : Int) (b1 : decide (n < 1) = false) (b2 : decide (300 < n) = false) (b3 : decide (at_ < 0) = true) :
    Calls Try.prog 4 #[.int .i64 n, .int .i64 at_, .int .i64 part] w fun e w' => e = .returned (.bool true) ∧ Below w.heap.size w w' := by
  go_enter Try.func4, Try.ntmps4
  go_wp2_with (go_at_call 6; (with_reducible refine (law11_awake _).mono ?_); rintro e w2 ⟨rfl, hb⟩; have B2 := Aside0.mk hb; clear hb)
  go_ret
  exact ⟨rfl, B2.out⟩
set_option maxHeartbeats 8000000 in
set_option maxRecDepth 100000 in
theorem store_Gone_bad4 (w : World) (n at_ part : Int) (b1 : decide (n < 1) = false) (b2 : decide (300 < n) = false) (b3 : decide (at_ < 0) = false) (b4 : decide (part < 1) = true) :
    Calls Try.prog 4 #[.int .i64 n, .int .i64 at_, .int .i64 part] w fun e w' => e = .returned (.bool true) ∧ Below w.heap.size w w' := by
  go_enter Try.func4, Try.ntmps4
  go_wp2_with (go_at_call 6; (with_reducible refine (law11_awake _).mono ?_); rintro e w2 ⟨rfl, hb⟩; have B2 := Aside0.mk hb; clear hb)
  go_ret
  exact ⟨rfl, B2.out⟩
set_option maxHeartbeats 8000000 in
set_option maxRecDepth 100000 in
theorem store_Gone_bad5 (w : World) (n at_ part : Int) (b1 : decide (n < 1) = false) (b2 : decide (300 < n) = false) (b3 : decide (at_ < 0) = false) (b4 : decide (part < 1) = false) (b5 : decide (n < at_) = true) :
    Calls Try.prog 4 #[.int .i64 n, .int .i64 at_, .int .i64 part] w fun e w' => e = .returned (.bool true) ∧ Below w.heap.size w w' := by
  go_enter Try.func4, Try.ntmps4
  go_wp2_with (go_at_call 6; (with_reducible refine (law11_awake _).mono ?_); rintro e w2 ⟨rfl, hb⟩; have B2 := Aside0.mk hb; clear hb)
  go_ret
  exact ⟨rfl, B2.out⟩
set_option maxHeartbeats 8000000 in
set_option maxRecDepth 100000 in
theorem store_Gone_bad6 (w : World) (n at_ part : Int) (b1 : decide (n < 1) = false) (b2 : decide (300 < n) = false) (b3 : decide (at_ < 0) = false) (b4 : decide (part < 1) = false) (b5 : decide (n < at_) = false) (s1 : IntKind.i64.wrap (n - at_) = n - at_) (b6 : decide (n - at_ < part) = true) :
    Calls Try.prog 4 #[.int .i64 n, .int .i64 at_, .int .i64 part] w fun e w' => e = .returned (.bool true) ∧ Below w.heap.size w w' := by
  go_enter Try.func4, Try.ntmps4
  go_wp2_with (go_at_call 6; (with_reducible refine (law11_awake _).mono ?_); rintro e w2 ⟨rfl, hb⟩; have B2 := Aside0.mk hb; clear hb)
  go_ret
  exact ⟨rfl, B2.out⟩
set_option maxHeartbeats 8000000 in
set_option maxRecDepth 100000 in
theorem store_Gone_good (w : World) (N A B : Nat) (h1 : 1 ≤ N) (h2 : N ≤ 300) (h3 : 1 ≤ B) (h4 : A + B ≤ N) :
    Calls Try.prog 4 #[.int .i64 (N : Int), .int .i64 (A : Int), .int .i64 (B : Int)] w fun e w' => e = .returned (.bool true) ∧ Below w.heap.size w w' := by
  have hu24 := Try.underlying24
  have hu26 := Try.underlying26
  have b1 : decide ((N : Int) < 1) = false := decide_eq_false (by omega)
  have b2 : decide (300 < (N : Int)) = false := decide_eq_false (by omega)
  have b3 : decide ((A : Int) < 0) = false := decide_eq_false (by omega)
  have b4 : decide ((B : Int) < 1) = false := decide_eq_false (by omega)
  have b5 : decide ((N : Int) < (A : Int)) = false := decide_eq_false (by omega)
  have s1 : IntKind.i64.wrap ((N : Int) - (A : Int)) = (N : Int) - (A : Int) := IntWalk.i64_in _ (by omega)
  have b6 : decide ((N : Int) - (A : Int) < (B : Int)) = false := decide_eq_false (by omega)
  have hm5 := run_make_row' (P := Try.prog) 41 5 (.int .u8 0) 1 Try.underlying41 (by kernel_rfl) rfl .i64 .i64 N (by omega) (by omega)
  have hl1 : store_ldv (fun _ => 0) 1 = 0 := by decide
  have HZ := Aside0.mk (show ∀ j, j < 1 → (List.replicate N (0 : Int))[A + j]? = some ((fun _ : Nat => (0 : Int)) j) from by
    intro j hj; rw [List.getElem?_replicate, if_pos (by omega)])
  have HT := Aside0.mk (show ∀ j, j < 1 → (List.replicate N true)[A + j]? = some true from by
    intro j hj; rw [List.getElem?_replicate, if_pos (by omega)])
  have HF := Aside0.mk (show (List.replicate N false)[A]? = some false from by
    rw [List.getElem?_replicate, if_pos (by omega)])
  go_enter Try.func4, Try.ntmps4
  go_upto_region 4 with (go_at_call 7; (with_reducible refine (store_New_calls _).mono ?_); rintro e w1 ⟨rfl, rfl⟩)
  go_upto_region 5 with (go_at_call 8; refine (store_Make_one w _ w.heap.size N (by exact blk_new w _) (Nat.le_refl _) (by exact below_alloc (Below.refl _ _) _) h1 h2).mono ?_; rintro e w2 ⟨rfl, lb, cap, db, tb, hO, hsame, hsz⟩; have H2 := Aside0.mk hO; have nd2 := blk_lt hO.d; clear hO hsame hsz)
  go_region_with ((go_at_call 12; refine (store_Fill_ob w _ w.heap.size lb cap db tb N 0 (w2.heap.size + 1) (fun _ => z24) (by exact H2.out.step (below_drew (below_alloc (below_alloc (Below.refl _ _) _) _))) (by exact blk_drew (store_fill_row w2 _ N)) (by omega) (by omega)).mono ?_; rintro e w3 ⟨rfl, hO, hK, hZ⟩; have H3 := Aside0.mk hO; have P3 := Aside0.mk (hK w2.heap.size #[.int .i64 1, .int .i64 0, .int .i64 (N : Int), .int .i64 0] 24 (by exact blk_drew (blk_alloc (blk_new w2 (.cells #[.int .i64 1, .int .i64 0, .int .i64 (N : Int), .int .i64 0] 24)) _)) (by decide) (by decide) (by decide)); clear hO hK hZ))
  all_goals (
    have np3 := blk_lt P3.out
    obtain ⟨p0, p1, p2, p3⟩ := store_cells4 P3.out
    clear b1 b2 b3 b4 b5 b6 s1 hm5
    go_upto_region 7 with (go_at_call 13; refine (store_Part_ob w _ w.heap.size lb cap db tb N 0 none (fun _ => z24) _ _ (by exact H3.out) A B (by omega) (by omega) (by omega) (by omega)).mono ?_; rintro e w4 ⟨rfl, hb⟩; have H4 := Aside0.mk (H3.out.step hb); have P4 := Aside0.mk (blk_below P3.out hb); clear hb)
    go_upto_region 8 with (go_at_call 11; refine (store_Load1_num_ob w _ w.heap.size lb cap db tb N 0 A none (fun _ => z24) _ _ (by exact H4.out.step (below_alloc (Below.refl _ _) _)) A ((A : Int) + (B : Int)) (fun _ => 0) (by omega) (by omega) (by omega) (by omega) (by omega) HZ.out HT.out).mono ?_; rintro e w5 ⟨rfl, hb⟩; rw [hl1]; have H5 := Aside0.mk ((H4.out.step (below_alloc (Below.refl _ _) (.cells #[.int .i64 1, .int .i64 (A : Int), .int .i64 ((A : Int) + (B : Int)), .int .i64 (A : Int)] 24))).step hb); have P5 := Aside0.mk (blk_below (blk_alloc P4.out (.cells #[.int .i64 1, .int .i64 (A : Int), .int .i64 ((A : Int) + (B : Int)), .int .i64 (A : Int)] 24)) hb); have Q5 := Aside0.mk (blk_below (blk_new w4 (.cells #[.int .i64 1, .int .i64 (A : Int), .int .i64 ((A : Int) + (B : Int)), .int .i64 (A : Int)] 24)) hb); clear hb)
    clear p0 p1 p2 p3 np3
    have np5 := blk_lt P5.out
    obtain ⟨p0, p1, p2, p3⟩ := store_cells4 P5.out
    go_upto_region 9 with (go_at_call 14; refine (store_Unset_ob w _ w.heap.size lb cap db tb N 0 none (fun _ => z24) _ _ (by exact H5.out.step (below_alloc (Below.refl _ _) _)) (by omega)).mono ?_; rintro e w6 ⟨rfl, db6, tb6, hO, hK, hZ⟩; have H6 := Aside0.mk hO; have P6 := Aside0.mk (hK _ _ _ (blk_alloc P5.out (.cells #[.int .u32 0, .int .i64 0, .int .i64 0, .int .i64 0, .int .i64 0, .bool false] 26)) (by decide) (by decide) (by decide)); have Q6 := Aside0.mk (hK _ _ _ (blk_alloc Q5.out (.cells #[.int .u32 0, .int .i64 0, .int .i64 0, .int .i64 0, .int .i64 0, .bool false] 26)) (by decide) (by decide) (by decide)); clear hO hK hZ)
    clear p0 p1 p2 p3 np5
    have nq6 := blk_lt Q6.out
    obtain ⟨q0, q1, q2, q3⟩ := store_cells4 Q6.out
    go_upto_region 10 with (go_at_call 11; refine (store_Load1_unset w _ w.heap.size lb cap db6 tb6 N 0 A none (fun _ => z24) _ _ A ((A : Int) + (B : Int)) (by exact H6.out) (by omega) (by omega) (by omega) (by omega) (by omega) HF.out).mono ?_; rintro e w7 ⟨rfl, hb⟩; have H7 := Aside0.mk (H6.out.step hb); have P7 := Aside0.mk (blk_below P6.out hb); have Q7 := Aside0.mk (blk_below Q6.out hb); clear hb)
    clear q0 q1 q2 q3 nq6
    have nq7 := blk_lt Q7.out
    obtain ⟨q0, q1, q2, q3⟩ := store_cells4 Q7.out
    go_upto_region 11 with (go_at_call 10; refine (store_Put1_num w _ w.heap.size lb cap db6 tb6 N 0 A none (fun _ => z24) _ _ (by exact H7.out.step (below_alloc (Below.refl _ _) _)) A ((A : Int) + (B : Int)) 9 ⟨0, 0, 0, 0⟩ (by omega) (by omega) (by omega) (by omega) (by omega) (by omega) rfl).mono ?_; rintro e w8 ⟨rfl, hO, hK, hZ⟩; have H8 := Aside0.mk hO; have P8 := Aside0.mk (hK _ _ _ (blk_alloc P7.out (.cells #[.int .u32 0, .int .i64 0, .int .i64 0, .int .i64 0, .int .i64 0, .bool false] 26)) (by decide) (by decide) (by decide)); have Q8 := Aside0.mk (hK _ _ _ (blk_alloc Q7.out (.cells #[.int .u32 0, .int .i64 0, .int .i64 0, .int .i64 0, .int .i64 0, .bool false] 26)) (by decide) (by decide) (by decide)); clear hO hK hZ)
    clear q0 q1 q2 q3 nq7
    have np8 := blk_lt P8.out
    obtain ⟨p0, p1, p2, p3⟩ := store_cells4 P8.out
    go_upto_region 12 with (go_at_call 15; refine (store_Drop_ob w _ w.heap.size lb cap db6 tb6 N 0 none (fun _ => z24) _ _ (by exact H8.out)).mono ?_; rintro e w9 ⟨rfl, hO, hK, hZ⟩; have H9 := Aside0.mk hO; have P9 := Aside0.mk (hK _ _ _ P8.out (by decide) (by decide) (by decide)); have Q9 := Aside0.mk (hK _ _ _ Q8.out (by decide) (by decide) (by decide)); clear hO hK hZ)
    clear p0 p1 p2 p3 np8
    have nq9 := blk_lt Q9.out
    obtain ⟨q0, q1, q2, q3⟩ := store_cells4 Q9.out
    go_upto_region 13 with (go_at_call 11; refine (store_Load_gone w _ w.heap.size lb cap (by exact H9.out) A ((A : Int) + (B : Int)) A).mono ?_; rintro e w10 ⟨rfl, hb⟩; have H10 := Aside0.mk (H9.out.step hb); have P10 := Aside0.mk (blk_below P9.out hb); have Q10 := Aside0.mk (blk_below Q9.out hb); clear hb)
    clear q0 q1 q2 q3 nq9
    have nq10 := blk_lt Q10.out
    obtain ⟨q0, q1, q2, q3⟩ := store_cells4 Q10.out
    go_upto_region 14 with (go_at_call 10; refine (store_Put_gone w _ w.heap.size lb cap (by exact H10.out.step (below_alloc (Below.refl _ _) _)) A ((A : Int) + (B : Int)) A 0 ⟨0, 0, 0, 0⟩).mono ?_; rintro e w11 ⟨rfl, hb⟩; have H11 := Aside0.mk ((H10.out.step (below_alloc (Below.refl _ _) (.cells #[.int .u32 0, .int .i64 0, .int .i64 0, .int .i64 0, .int .i64 0, .bool false] 26))).step hb); have P11 := Aside0.mk (blk_below (blk_alloc P10.out (.cells #[.int .u32 0, .int .i64 0, .int .i64 0, .int .i64 0, .int .i64 0, .bool false] 26)) hb); have Q11 := Aside0.mk (blk_below (blk_alloc Q10.out (.cells #[.int .u32 0, .int .i64 0, .int .i64 0, .int .i64 0, .int .i64 0, .bool false] 26)) hb); clear hb)
    clear q0 q1 q2 q3 nq10
    have nq11 := blk_lt Q11.out
    obtain ⟨q0, q1, q2, q3⟩ := store_cells4 Q11.out
    go_upto_region 15 with (go_at_call 9; refine (store_Move_gone w _ w.heap.size lb cap (by exact H11.out) A ((A : Int) + (B : Int)) A 0).mono ?_; rintro e w12 ⟨rfl, hb⟩; have H12 := Aside0.mk (H11.out.step hb); have P12 := Aside0.mk (blk_below P11.out hb); clear hb)
    clear q0 q1 q2 q3 nq11
    go_wp2_with (first | (go_at_call 6; (with_reducible refine (law11_awake _).mono ?_); rintro e w13 ⟨rfl, hb⟩; have H13 := Aside0.mk ((H12.out.step (below_alloc (Below.refl _ _) (.cells #[.int .i64 0, .int .i64 0, .int .i64 0, .int .i64 0] 24))).step hb); have P13 := Aside0.mk (blk_below (blk_alloc P12.out (.cells #[.int .i64 0, .int .i64 0, .int .i64 0, .int .i64 0] 24)) hb); clear hb; obtain ⟨p0, p1, p2, p3⟩ := store_cells4 P13.out) | (go_at_call 15; refine (store_Drop_gone w _ w.heap.size lb cap (by exact H13.out)).mono ?_; rintro e w14 ⟨rfl, rfl⟩))
    go_ret
    exact ⟨rfl, H13.out.below⟩)
theorem law11_StoreGone (w : World) (n at_ part : Int) (hn : -9223372036854775808 ≤ n ∧ n ≤ 9223372036854775807) (ha : -9223372036854775808 ≤ at_ ∧ at_ ≤ 9223372036854775807) (hp : -9223372036854775808 ≤ part ∧ part ≤ 9223372036854775807) :
    Calls Try.prog 4 #[.int .i64 n, .int .i64 at_, .int .i64 part] w fun e w' => e = .returned (.bool true) ∧ Below w.heap.size w w' := by
  by_cases c1 : n < 1
  · exact store_Gone_bad1 w n at_ part (decide_eq_true c1)
  by_cases c2 : 300 < n
  · exact store_Gone_bad2 w n at_ part (decide_eq_false c1) (decide_eq_true c2)
  by_cases c3 : at_ < 0
  · exact store_Gone_bad3 w n at_ part (decide_eq_false c1) (decide_eq_false c2) (decide_eq_true c3)
  by_cases c4 : part < 1
  · exact store_Gone_bad4 w n at_ part (decide_eq_false c1) (decide_eq_false c2) (decide_eq_false c3) (decide_eq_true c4)
  by_cases c5 : n < at_
  · exact store_Gone_bad5 w n at_ part (decide_eq_false c1) (decide_eq_false c2) (decide_eq_false c3) (decide_eq_false c4) (decide_eq_true c5)
  by_cases c6 : n - at_ < part
  · exact store_Gone_bad6 w n at_ part (decide_eq_false c1) (decide_eq_false c2) (decide_eq_false c3) (decide_eq_false c4) (decide_eq_false c5) (IntWalk.i64_in _ (by omega)) (decide_eq_true c6)
  obtain ⟨N, rfl⟩ := Int.eq_ofNat_of_zero_le (show 0 ≤ n by omega)
  obtain ⟨A, rfl⟩ := Int.eq_ofNat_of_zero_le (show 0 ≤ at_ by omega)
  obtain ⟨B, rfl⟩ := Int.eq_ofNat_of_zero_le (show 0 ≤ part by omega)
  exact store_Gone_good w N A B (by omega) (by omega) (by omega) (by omega)
end Go.Proofs.Ytplafnaocgifoaa.St
