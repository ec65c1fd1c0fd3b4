/- StoreQ4: functions of the program walked by hand, and what they come to. -/
import Derived.Test.YtplafnaocgifoaaProg
import Derived.Below
import Derived.Deep.Draws
import Derived.Deep.AppendLies
import Derived.Maps.AppendAt
import Derived.OwnWalk
import Derived.Laws.BytesArg
import Derived.Laws.MakeOwn
import Derived.Laws.OwnMore
import Derived.Deep.OwnRows
import Derived.Tactics
import Derived.Lib.ConvBytes
import Derived.Laws.Slices
import Derived.WalkKit
import Derived.KernelRfl
import Derived.RowKit3
import Derived.Deep.LoopGhost
import Derived.Deep.QuietTactic
import Derived.BigQuiet
import Derived.WideLaws
import Derived.Deep.DeepCutAuto
import Derived.Deep.CutBlock
import Derived.Deep.RegionHeld3
import Derived.Laws.Rows
import Derived.Lib.AppendStr
import Derived.ArgAppend
import Derived.Laws.IdiomCopy
import Derived.OrdersHeld
import Derived.Laws.BitsLemmas
import Derived.RowKit
import Derived.Test.YtplafnaocgifoaaWWords
import Derived.Test.YtplafnaocgifoaaWLast
import Derived.Test.YtplafnaocgifoaaWTab
import Derived.Test.YtplafnaocgifoaaWFour
import Derived.Test.YtplafnaocgifoaaWQPut
import Derived.Test.YtplafnaocgifoaaWApart
import Derived.Test.YtplafnaocgifoaaWArr
import Derived.Test.YtplafnaocgifoaaWZeros
import Derived.Test.YtplafnaocgifoaaWFoot
import Derived.Test.YtplafnaocgifoaaWKept
import Derived.Test.YtplafnaocgifoaaWShare
import Derived.Test.YtplafnaocgifoaaWN
import Derived.Test.YtplafnaocgifoaaWFootNe
import Derived.Test.YtplafnaocgifoaaWAt
import Derived.Test.YtplafnaocgifoaaWEqStruct
import Derived.Test.YtplafnaocgifoaaWRepsOne
import Derived.Test.YtplafnaocgifoaaWInv
import Derived.Test.YtplafnaocgifoaaWInvWords
import Derived.Test.YtplafnaocgifoaaWGuard
import Derived.Test.YtplafnaocgifoaaWNEv
import Derived.Test.YtplafnaocgifoaaWMore
import Derived.Test.YtplafnaocgifoaaSt0
import Derived.Test.YtplafnaocgifoaaStoreQ
import Derived.Outline
set_option linter.all false
namespace Go.Proofs.Ytplafnaocgifoaa.St
open Go.RowKit Go.Proofs.YtplafnaocgifoaaW.PrintWords Go.Proofs.YtplafnaocgifoaaW.PrintLast Go.Proofs.YtplafnaocgifoaaW.PrintMore
set_option linter.unusedVariables false
set_option maxHeartbeats 8000000 in
set_option maxRecDepth 100000 in
theorem store_Back_good4 (w : World) (N A : Nat) (x : Int) (q : S24) (vi : Bool) (y : Int) (r : S24) (wi : Bool) (hx : 0 ≤ x ∧ x < 4294967296) (hy : 0 ≤ y ∧ y < 4294967296) (h1 : 8 ≤ N) (h2 : N ≤ 300) (h3 : A + 8 ≤ N) (HV0 : Aside0 (vi = false)) (HW0 : Aside0 (wi = false)) :
    Calls Try.prog 3 #[.agg #[.int .i64 (N : Int), .int .i64 (A : Int), .int .u32 x, .int .i64 q.f0, .int .i64 q.f1, .int .i64 q.f2, .int .i64 q.f3, .bool vi, .int .u32 y, .int .i64 r.f0, .int .i64 r.f1, .int .i64 r.f2, .int .i64 r.f3, .bool wi]] w fun e w' => e = .returned (.bool true) ∧ Below w.heap.size w w' := by
  have hu28 := Try.underlying28
  have hu24 := Try.underlying24
  have hu26 := Try.underlying26
  have b1 : decide ((N : Int) < 8) = false := decide_eq_false (by omega)
  have b2 : decide (300 < (N : Int)) = false := decide_eq_false (by omega)
  have b3 : decide ((A : Int) < 0) = false := decide_eq_false (by omega)
  have s1 : IntKind.i64.wrap ((N : Int) - 8) = (N : Int) - 8 := IntWalk.i64_in _ (by omega)
  have b4 : decide ((N : Int) - 8 < (A : Int)) = false := decide_eq_false (by omega)
  have s2 : IntKind.i64.wrap ((A : Int) + 4) = ((A + 4 : Nat) : Int) := (IntWalk.i64_in _ (by omega)).trans (by omega)
  go_enter Try.func3, Try.ntmps3
  go_upto_region 1 with (fail)
  go_region
  all_goals (go_upto_region 2 with (fail))
  obtain ⟨W1, eW⟩ : ∃ W1, W1 = (((w.alloc (.cells #[.int .i64 (N : Int), .int .i64 (A : Int), .int .u32 x, .int .i64 q.f0, .int .i64 q.f1, .int .i64 q.f2, .int .i64 q.f3, .bool vi, .int .u32 y, .int .i64 r.f0, .int .i64 r.f1, .int .i64 r.f2, .int .i64 r.f3, .bool wi] 28)).alloc (.cells #[.int .u32 x, .int .i64 q.f0, .int .i64 q.f1, .int .i64 q.f2, .int .i64 q.f3, .bool vi] 26)).alloc (.cells #[.int .u32 y, .int .i64 r.f0, .int .i64 r.f1, .int .i64 r.f2, .int .i64 r.f3, .bool wi] 26)).drew := ⟨_, rfl⟩
  rw [← eW]
  have V1 := Aside0.mk (show W1.heap[w.heap.size + 1]? = some (.cells #[.int .u32 x, .int .i64 q.f0, .int .i64 q.f1, .int .i64 q.f2, .int .i64 q.f3, .bool vi] 26 (0, 0)) from by rw [eW]; exact blk_drew (blk_alloc (store_second w _ _) _))
  have U1 := Aside0.mk (show W1.heap[w.heap.size + 1 + 1]? = some (.cells #[.int .u32 y, .int .i64 r.f0, .int .i64 r.f1, .int .i64 r.f2, .int .i64 r.f3, .bool wi] 26 (0, 0)) from by rw [eW]; exact blk_drew (store_third w _ _ _))
  have B1 := Aside0.mk (show Below w.heap.size w W1 from by rw [eW]; exact below_drew (below_alloc (below_alloc (below_alloc (Below.refl _ _) _) _) _))
  clear eW
  obtain ⟨bu, ebu⟩ : ∃ b, b = w.heap.size + 1 + 1 := ⟨_, rfl⟩
  rw [← ebu] at U1 ⊢
  obtain ⟨bv, ebv⟩ : ∃ b, b = w.heap.size + 1 := ⟨_, rfl⟩
  rw [← ebv] at V1 ⊢
  rotate_left
  obtain ⟨W1, eW⟩ : ∃ W1, W1 = (((w.alloc (.cells #[.int .i64 (N : Int), .int .i64 (A : Int), .int .u32 x, .int .i64 q.f0, .int .i64 q.f1, .int .i64 q.f2, .int .i64 q.f3, .bool vi, .int .u32 y, .int .i64 r.f0, .int .i64 r.f1, .int .i64 r.f2, .int .i64 r.f3, .bool wi] 28)).alloc (.cells #[.int .u32 y, .int .i64 r.f0, .int .i64 r.f1, .int .i64 r.f2, .int .i64 r.f3, .bool wi] 26)).alloc (.cells #[.int .u32 x, .int .i64 q.f0, .int .i64 q.f1, .int .i64 q.f2, .int .i64 q.f3, .bool vi] 26)).drew := ⟨_, rfl⟩
  rw [← eW]
  have U1 := Aside0.mk (show W1.heap[w.heap.size + 1]? = some (.cells #[.int .u32 y, .int .i64 r.f0, .int .i64 r.f1, .int .i64 r.f2, .int .i64 r.f3, .bool wi] 26 (0, 0)) from by rw [eW]; exact blk_drew (blk_alloc (store_second w _ _) _))
  have V1 := Aside0.mk (show W1.heap[w.heap.size + 1 + 1]? = some (.cells #[.int .u32 x, .int .i64 q.f0, .int .i64 q.f1, .int .i64 q.f2, .int .i64 q.f3, .bool vi] 26 (0, 0)) from by rw [eW]; exact blk_drew (store_third w _ _ _))
  have B1 := Aside0.mk (show Below w.heap.size w W1 from by rw [eW]; exact below_drew (below_alloc (below_alloc (below_alloc (Below.refl _ _) _) _) _))
  clear eW
  obtain ⟨bv, ebv⟩ : ∃ b, b = w.heap.size + 1 + 1 := ⟨_, rfl⟩
  rw [← ebv] at V1 ⊢
  obtain ⟨bu, ebu⟩ : ∃ b, b = w.heap.size + 1 := ⟨_, rfl⟩
  rw [← ebu] at U1 ⊢
  rotate_left
  all_goals (
    have nv : bv < W1.heap.size := blk_lt V1.out
    have nu : bu < W1.heap.size := blk_lt U1.out
    have mv : w.heap.size ≤ bv := by omega
    have mu : w.heap.size ≤ bu := by omega
    have nvu : bv ≠ bu := by omega
    clear ebv ebu)
  all_goals (
    go_upto_region 5 with (go_at_call 7; (with_reducible refine (store_New_calls _).mono ?_); rintro e w1 ⟨rfl, rfl⟩)
    go_upto_region 6 with (go_at_call 8; refine (store_Make_one w _ W1.heap.size N (by exact blk_new W1 _) B1.out.size (by exact below_alloc B1.out _) (by omega) (by omega)).mono ?_; rintro e w2 ⟨rfl, lb, cap, db, tb, hO, hsame, hsz⟩; have H2 := Aside0.mk hO; have V2 := Aside0.mk ((hsame bv (by simp [World.size_alloc]; omega) (by omega)).trans (blk_alloc V1.out _)); have U2 := Aside0.mk ((hsame bu (by simp [World.size_alloc]; omega) (by omega)).trans (blk_alloc U1.out _)); clear hO hsame hsz)
    go_upto_region 7 with (go_at_call 9; refine (store_Move_ob w _ W1.heap.size lb cap db tb N 0 none (fun _ => z24) _ _ (by exact H2.out.step (below_alloc (Below.refl _ _) _)) 0 N 0 A (by omega) (by omega) (by decide) (by omega) (by decide)).mono ?_; rintro e w3 ⟨rfl, hb⟩; rw [Int.zero_add]; have H3 := Aside0.mk ((H2.out.step (below_alloc (Below.refl _ _) (.cells #[.int .i64 1, .int .i64 0, .int .i64 (N : Int), .int .i64 0] 24))).step hb); have P3 := Aside0.mk (blk_below (blk_new w2 (.cells #[.int .i64 1, .int .i64 0, .int .i64 (N : Int), .int .i64 0] 24)) hb); have V3 := Aside0.mk (blk_below (blk_alloc V2.out (.cells #[.int .i64 1, .int .i64 0, .int .i64 (N : Int), .int .i64 0] 24)) hb); have U3 := Aside0.mk (blk_below (blk_alloc U2.out (.cells #[.int .i64 1, .int .i64 0, .int .i64 (N : Int), .int .i64 0] 24)) hb); clear hb)
    have n3 := blk_lt P3.out
    obtain ⟨p0, p1, p2, p3⟩ := store_cells4 P3.out
    go_upto_region 8 with (go_at_call 9; refine (store_Move_ob w _ W1.heap.size lb cap db tb N 0 none (fun _ => z24) _ _ (by exact H3.out.step (below_alloc (Below.refl _ _) _)) 0 N 0 ((A + 4 : Nat) : Int) (by omega) (by omega) (by decide) (by omega) (by decide)).mono ?_; rintro e w4 ⟨rfl, hb⟩; rw [Int.zero_add]; have H4 := Aside0.mk ((H3.out.step (below_alloc (Below.refl _ _) (.cells #[.int .i64 1, .int .i64 0, .int .i64 (N : Int), .int .i64 (A : Int)] 24))).step hb); have A4 := Aside0.mk (blk_below (blk_new w3 (.cells #[.int .i64 1, .int .i64 0, .int .i64 (N : Int), .int .i64 (A : Int)] 24)) hb); have V4 := Aside0.mk (blk_below (blk_alloc V3.out (.cells #[.int .i64 1, .int .i64 0, .int .i64 (N : Int), .int .i64 (A : Int)] 24)) hb); have U4 := Aside0.mk (blk_below (blk_alloc U3.out (.cells #[.int .i64 1, .int .i64 0, .int .i64 (N : Int), .int .i64 (A : Int)] 24)) hb); clear hb)
    clear p0 p1 p2 p3 n3
    have n4a := blk_lt A4.out
    have n4v := blk_lt V4.out
    obtain ⟨p0, p1, p2, p3⟩ := store_cells4 A4.out
    obtain ⟨v0, v1, v2, v3, v4, v5⟩ := store_cells6 V4.out
    go_upto_region 9 with (go_at_call 10; refine (store_Put_any w _ W1.heap.size lb cap db tb N 0 A none (fun _ => z24) _ _ (by exact H4.out.step (below_alloc (Below.refl _ _) _)) 0 N x q vi (by omega) (by omega) (by omega) (by omega) (by omega) hx (by omega)).mono ?_; rintro e w5 ⟨rfl, mp5, m5, hb5, hb5', hm5, hO, hK, hZ⟩; have H5 := Aside0.mk hO; have A5 := Aside0.mk (hK _ _ _ (blk_alloc A4.out (.cells #[.int .i64 1, .int .i64 0, .int .i64 (N : Int), .int .i64 ((A + 4 : Nat) : Int)] 24)) (by decide) (by decide) (by decide)); have B5 := Aside0.mk (hK _ _ _ (blk_new w4 (.cells #[.int .i64 1, .int .i64 0, .int .i64 (N : Int), .int .i64 ((A + 4 : Nat) : Int)] 24)) (by decide) (by decide) (by decide)); have V5 := Aside0.mk (hK _ _ _ (blk_alloc V4.out (.cells #[.int .i64 1, .int .i64 0, .int .i64 (N : Int), .int .i64 ((A + 4 : Nat) : Int)] 24)) (by decide) (by decide) (by decide)); have U5 := Aside0.mk (hK _ _ _ (blk_alloc U4.out (.cells #[.int .i64 1, .int .i64 0, .int .i64 (N : Int), .int .i64 ((A + 4 : Nat) : Int)] 24)) (by decide) (by decide) (by decide)); have MP5 := Aside0.mk hb5; have M5 := Aside0.mk hm5; clear hO hK hZ hb5 hb5' hm5)
    clear p0 p1 p2 p3 n4a v0 v1 v2 v3 v4 v5 n4v
    obtain ⟨p0, p1, p2, p3⟩ := store_cells4 B5.out
    obtain ⟨v0, v1, v2, v3, v4, v5⟩ := store_cells6 U5.out
    go_upto_region 10 with (go_at_call 10; refine (store_Put_any w _ W1.heap.size lb cap db tb N m5 (A + 4) mp5 _ _ _ (by exact H5.out) 0 N y r wi (by omega) (by omega) (by omega) (by omega) (by omega) hy (by have := M5.out; omega)).mono ?_; rintro e w6 ⟨rfl, mp6, m6, hb6, hb6', hm6, hO, hK, hZ⟩; have H6 := Aside0.mk hO; have A6 := Aside0.mk (hK _ _ _ A5.out (by decide) (by decide) (by decide)); have B6 := Aside0.mk (hK _ _ _ B5.out (by decide) (by decide) (by decide)); have V6 := Aside0.mk (hK _ _ _ V5.out (by decide) (by decide) (by decide)); have U6 := Aside0.mk (hK _ _ _ U5.out (by decide) (by decide) (by decide)); have MP6 := Aside0.mk hb6; have MV6 := Aside0.mk (fun h : vi = true => hb6' (MP5.out h)); clear hO hK hZ hb6 hb6' hm6)
    clear p0 p1 p2 p3 v0 v1 v2 v3 v4 v5
    obtain ⟨p0, p1, p2, p3⟩ := store_cells4 A6.out
    obtain ⟨v0, v1, v2, v3, v4, v5⟩ := store_cells6 V6.out
    have HV := Aside0.mk (store_Back_reads1 N A x q vi y r wi h3)
    have HU := Aside0.mk (store_Back_reads2 N A x q vi y r wi h3)
    go_upto_region 11 with (go_at_call 11; refine (store_Load_any w _ W1.heap.size lb cap db tb N m6 A mp6 _ _ _ (by exact H6.out) 0 N x q vi (by omega) (by omega) (by omega) (by omega) (by omega) hx MV6.out HV.out.1 HV.out.2.1 HV.out.2.2).mono ?_; rintro e w7 ⟨rfl, hb⟩; have H7 := Aside0.mk (H6.out.step hb); have B7 := Aside0.mk (blk_below B6.out hb); have V7 := Aside0.mk (blk_below V6.out hb); have U7 := Aside0.mk (blk_below U6.out hb); clear hb)
    clear p0 p1 p2 p3 v0 v1 v2 v3 v4 v5
    have n7b := blk_lt B7.out
    have n7u := blk_lt U7.out
    obtain ⟨p0, p1, p2, p3⟩ := store_cells4 B7.out
    obtain ⟨v0, v1, v2, v3, v4, v5⟩ := store_cells6 U7.out
    go_upto_region 12 with (go_at_call 11; refine (store_Load_any w _ W1.heap.size lb cap db tb N m6 (A + 4) mp6 _ _ _ (by exact H7.out.step (below_alloc (Below.refl _ _) _)) 0 N y r wi (by omega) (by omega) (by omega) (by omega) (by omega) hy MP6.out HU.out.1 HU.out.2.1 HU.out.2.2).mono ?_; rintro e w8 ⟨rfl, hb⟩; have H8 := Aside0.mk ((H7.out.step (below_alloc (Below.refl _ _) (.cells #[.int .u32 (store_bn vi x), .int .i64 (store_bp vi q.f0), .int .i64 (store_bp vi q.f1), .int .i64 (store_bp vi q.f2), .int .i64 (store_bp vi q.f3), .bool vi] 26))).step hb); have X8 := Aside0.mk (blk_below (blk_new w7 (.cells #[.int .u32 (store_bn vi x), .int .i64 (store_bp vi q.f0), .int .i64 (store_bp vi q.f1), .int .i64 (store_bp vi q.f2), .int .i64 (store_bp vi q.f3), .bool vi] 26)) hb); have V8 := Aside0.mk (blk_below (blk_alloc V7.out (.cells #[.int .u32 (store_bn vi x), .int .i64 (store_bp vi q.f0), .int .i64 (store_bp vi q.f1), .int .i64 (store_bp vi q.f2), .int .i64 (store_bp vi q.f3), .bool vi] 26)) hb); have U8 := Aside0.mk (blk_below (blk_alloc U7.out (.cells #[.int .u32 (store_bn vi x), .int .i64 (store_bp vi q.f0), .int .i64 (store_bp vi q.f1), .int .i64 (store_bp vi q.f2), .int .i64 (store_bp vi q.f3), .bool vi] 26)) hb); clear hb)
    clear p0 p1 p2 p3 v0 v1 v2 v3 v4 v5 n7b n7u b1 b2 b3 b4 s1 s2
    go_upto_region 14 with (fail)
    have n8v := blk_lt V8.out
    have n8u := blk_lt U8.out
    have n8x := blk_lt X8.out
    obtain ⟨v0, v1, v2, v3, v4, v5⟩ := store_cells6 V8.out
    obtain ⟨u0, u1, u2, u3, u4, u5⟩ := store_cells6 U8.out
    have zv0 := blk_frozen V8.out 0
    have zv1 := blk_frozen V8.out 1
    have zv2 := blk_frozen V8.out 2
    have zv3 := blk_frozen V8.out 3
    have zv4 := blk_frozen V8.out 4
    have zu0 := blk_frozen U8.out 0
    have zu1 := blk_frozen U8.out 1
    have zu2 := blk_frozen U8.out 2
    have zu3 := blk_frozen U8.out 3
    have zu4 := blk_frozen U8.out 4
    have kx_v : w7.heap.size ≠ bv := (by have := blk_lt V7.out; omega)
    have kx_u : w7.heap.size ≠ bu := (by have := blk_lt U7.out; omega)
    have hv := HV0.out
    have hw := HW0.out
    go_upto_region 20 with (fail)
    have ev0 : store_bn vi x = x := by rw [hv]; rfl
    have ev1 : store_bp vi q.f0 = 0 := by rw [hv]; rfl
    have ev2 : store_bp vi q.f1 = 0 := by rw [hv]; rfl
    have ev3 : store_bp vi q.f2 = 0 := by rw [hv]; rfl
    have ev4 : store_bp vi q.f3 = 0 := by rw [hv]; rfl
    have ew0 : store_bn wi y = y := by rw [hw]; rfl
    have ew1 : store_bp wi r.f0 = 0 := by rw [hw]; rfl
    have ew2 : store_bp wi r.f1 = 0 := by rw [hw]; rfl
    have ew3 : store_bp wi r.f2 = 0 := by rw [hw]; rfl
    have ew4 : store_bp wi r.f3 = 0 := by rw [hw]; rfl
    go_wp2_with (go_at_call 6; (with_reducible refine (law11_awake _).mono ?_); rintro e w9 ⟨rfl, hb⟩; have V9 : w9.heap[bv]? = some (.cells #[.int .u32 x, .int .i64 0, .int .i64 0, .int .i64 0, .int .i64 0, .bool vi] 26 (0, 0)) := (by refine blk_below ?_ hb; refine blk_alloc ?_ _; exact store_far4 nvu (store_set4 (V8.out) _ _ _ _) _ _ _ _); have U9 : w9.heap[bu]? = some (.cells #[.int .u32 y, .int .i64 0, .int .i64 0, .int .i64 0, .int .i64 0, .bool wi] 26 (0, 0)) := (by refine blk_below ?_ hb; refine blk_alloc ?_ _; exact store_set4 (store_far4 (Ne.symm nvu) (U8.out) _ _ _ _) _ _ _ _); have X9 : w9.heap[w7.heap.size]? = some (.cells #[.int .u32 (store_bn vi x), .int .i64 (store_bp vi q.f0), .int .i64 (store_bp vi q.f1), .int .i64 (store_bp vi q.f2), .int .i64 (store_bp vi q.f3), .bool vi] 26 (0, 0)) := (by refine blk_below ?_ hb; refine blk_alloc ?_ _; exact store_far4 kx_u (store_far4 kx_v (X8.out) _ _ _ _) _ _ _ _); have Y9 := blk_below (blk_new _ _) hb; simp only [store_size_set] at Y9; have B9 := Aside0.mk (show Below w.heap.size w w9 from below_step (by refine below_alloc ?_ _; repeat (first | (with_reducible exact H8.out.below) | (with_reducible refine below_set ?_ (by assumption)))) hb); clear hb v0 v1 v2 v3 v4 v5 u0 u1 u2 u3 u4 u5 zv0 zv1 zv2 zv3 zv4 zu0 zu1 zu2 zu3 zu4; obtain ⟨v0, v1, v2, v3, v4, v5⟩ := store_cells6 V9; obtain ⟨u0, u1, u2, u3, u4, u5⟩ := store_cells6 U9; obtain ⟨x0, x1, x2, x3, x4, x5⟩ := store_cells6 X9; obtain ⟨y0, y1, y2, y3, y4, y5⟩ := store_cells6 Y9; clear V9 U9 X9 Y9)
    go_ret
    exact ⟨rfl, B9.out⟩)
end Go.Proofs.Ytplafnaocgifoaa.St
