/- FlowN: functions of the program walked by hand, and what they come to. -/
import Derived.Test.YtppanpboejpmjaaProg
import Derived.Below
import Derived.Deep.Draws
import Derived.Deep.AppendLies
import Derived.Maps.AppendAt
import Derived.OwnWalk
import Derived.Laws.BytesArg
import Derived.Laws.MakeOwn
import Derived.Laws.OwnMore
import Derived.Deep.OwnRows
import Derived.Tactics
import Derived.Lib.ConvBytes
import Derived.Laws.Slices
import Derived.WalkKit
import Derived.KernelRfl
import Derived.RowKit3
import Derived.Deep.LoopGhost
import Derived.Deep.QuietTactic
import Derived.BigQuiet
import Derived.WideLaws
import Derived.Deep.DeepCutAuto
import Derived.Deep.CutBlock
import Derived.Deep.RegionHeld3
import Derived.Laws.Rows
import Derived.Lib.AppendStr
import Derived.ArgAppend
import Derived.Laws.IdiomCopy
import Derived.OrdersHeld
import Derived.Laws.BitsLemmas
import Derived.RowKit
import Derived.Shelf.SlicesE.DeleteFunc
import Derived.Test.YtppanpboejpmjaaWWords
import Derived.Test.YtppanpboejpmjaaWLast
import Derived.Test.YtppanpboejpmjaaWTab
import Derived.Test.YtppanpboejpmjaaWFour
import Derived.Test.YtppanpboejpmjaaWQPut
import Derived.Test.YtppanpboejpmjaaWApart
import Derived.Test.YtppanpboejpmjaaWArr
import Derived.Test.YtppanpboejpmjaaWZeros
import Derived.Test.YtppanpboejpmjaaWFoot
import Derived.Test.YtppanpboejpmjaaWKept
import Derived.Test.YtppanpboejpmjaaWShare
import Derived.Test.YtppanpboejpmjaaWN
import Derived.Test.YtppanpboejpmjaaWFootNe
import Derived.Test.YtppanpboejpmjaaWAt
import Derived.Test.YtppanpboejpmjaaWEqStruct
import Derived.Test.YtppanpboejpmjaaWRepsOne
import Derived.Test.YtppanpboejpmjaaWInv
import Derived.Test.YtppanpboejpmjaaWInvWords
import Derived.Test.YtppanpboejpmjaaWGuard
import Derived.Test.YtppanpboejpmjaaWNEv
import Derived.Test.YtppanpboejpmjaaWMore
import Derived.Test.YtppanpboejpmjaaTr0
import Derived.Test.YtppanpboejpmjaaFlowL
import Derived.Test.YtppanpboejpmjaaWTab
import Derived.ChangeKeysEq
import Derived.Outline
set_option linter.all false
namespace Go.Proofs.Ytppanpboejpmjaa.Tr
open Go.RowKit Go.Proofs.YtppanpboejpmjaaW.PrintWords Go.Proofs.YtppanpboejpmjaaW.PrintLast Go.Proofs.YtppanpboejpmjaaW.PrintMore
set_option linter.unusedVariables false
theorem flow_own_slice {w : World} {base e size n : Nat} {v : Value} {xs : List Value} (h : w.ownsRow base e size v n xs) : ∃ A c, v = .slice A n c := by
  obtain ⟨h1, ⟨ev, h2⟩ | ⟨g, cap, cur, ev, h2⟩⟩ := h
  · exact ⟨none, 0, by rw [ev, h2]⟩
  · exact ⟨_, _, ev⟩
/-- the blocks of the worked example -/
def flow_ex : List S45 := [⟨[], 1, -1, 1, 0⟩, ⟨[], 2, 0, 2, 0⟩, ⟨[], 3, 0, 0, 0⟩]
theorem flow_ex_order : flow_Order.f 40 (⟨#[]⟩ : ByteArray) false 0 1 [] flow_ex = some [0, 1, 2] := by decide +kernel
theorem flow_ex_back : flow_Back.f 40 (⟨#[]⟩ : ByteArray) false 0 1 [] flow_ex = some [(1, 0)] := by decide +kernel
theorem flow_ex_live : flow_Live.f 40 (⟨#[]⟩ : ByteArray) false 0 1 [] flow_ex = some ([[true], [true], [true]], [[true], [true], [true]]) := by decide +kernel
theorem flow_own_cells {w : World} {base e size n : Nat} {v : Value} {xs : List Value} (h : w.ownsRow base e size v n xs) (hn : 0 < n) : ∃ g cap, v = .slice (some ⟨g, 0, none⟩) n cap ∧ ∀ j u, xs[j]? = some u → w.cell? ⟨g, j, none⟩ = some u := by
  obtain ⟨h1, ⟨ev, h2⟩ | ⟨g, cap, cur, ev, h2, h3, h4, h5, h6, h7⟩⟩ := h
  · omega
  · refine ⟨g, cap, ev, fun j u hu => ?_⟩
    rw [blk_cell h3]
    have hj := (List.getElem?_eq_some_iff.1 hu).1
    rw [← h7, List.getElem?_take_of_lt (by omega), Array.getElem?_toList] at hu
    exact hu
theorem flow_info3 : (Try.prog.info? 3).isSome = true := by kernel_rfl
/-- '==' of two pairs -/
theorem flow_eq52 (w : World) (a b c d : Int) : (Op.equalIn 10000 52 (.agg #[.int .i64 a, .int .i64 b]) (.agg #[.int .i64 c, .int .i64 d])).run Try.prog w = .ok (a == c && b == d) w := by
  obtain ⟨i, hi⟩ := Option.isSome_iff_exists.1 flow_info3
  have hp : Try.prog.plainKey 3 = true := by kernel_rfl
  have hc : Try.prog.cellsOf 3 = 1 := by kernel_rfl
  rw [show (10000 : Nat) = 9998 + 1 + 1 from rfl, run_equalIn_array (P := Try.prog) w 9999 _ _ Try.underlying52 hi, hc]
  have h2 : List.range 2 = [0, 1] := rfl
  have r : ∀ x y : Int, (Op.equalIn 9999 3 (.int .i64 x) (.int .i64 y)).run Try.prog w = .ok (x == y) w := fun x y => run_equalIn_int w 9998 3 .i64 .i64 x y Try.underlying3
  have p0 : ∀ x y : Int, (part 3 #[.int .i64 x, .int .i64 y] (0 * 1)).run Try.prog w = .ok (.int .i64 x) w := fun x y => run_part_plain w hp rfl
  have p1 : ∀ x y : Int, (part 3 #[.int .i64 x, .int .i64 y] (1 * 1)).run Try.prog w = .ok (.int .i64 y) w := fun x y => run_part_plain w hp rfl
  rw [h2]
  simp only [Op.eqItems, Sem.run_bind, p0, p1, r, Result.andThen_ok]
  cases hx : (a == c) <;> cases hy : (b == d) <;> simp only [Bool.not_false, Bool.not_true, if_true, Bool.false_eq_true, if_false, reduceIte, Sem.run_pure, Bool.and_false, Bool.and_true, Bool.false_and, Bool.true_and, Sem.run_bind, p0, p1, r, Result.andThen_ok, Bool.and_self, hx, hy]
theorem flow_ex_Order (w : World) (A5 : Option Addr) (c5 : Nat) (hr : Kd.C k45 w A5 3 flow_ex) (hc : 3 ≤ c5) : Calls Try.prog 20 #[.agg #[.string (⟨#[]⟩ : ByteArray), .bool false, .int .i64 0, .int .i64 1, .slice none 0 0, .slice A5 3 c5]] w fun e w' => ∃ v0_ : Value, e = .returned (v0_) ∧ Kd.R (Kd.int .i64) 3 w' w.heap.size (fun _ => True) v0_ [0, 1, 2] ∧ Below w.heap.size w w' :=
  flow_Order.calls 40 (⟨#[]⟩ : ByteArray) false 0 1 none 0 [] A5 c5 flow_ex _ w (Kd.C_nil _ _) (Nat.le_refl _) hr hc flow_ex_order
theorem flow_ex_Back (w : World) (A5 : Option Addr) (c5 : Nat) (hr : Kd.C k45 w A5 3 flow_ex) (hc : 3 ≤ c5) : Calls Try.prog 21 #[.agg #[.string (⟨#[]⟩ : ByteArray), .bool false, .int .i64 0, .int .i64 1, .slice none 0 0, .slice A5 3 c5]] w fun e w' => ∃ v0_ : Value, e = .returned (v0_) ∧ w'.ownsRow w.heap.size 52 2 v0_ 1 [.int .i64 1, .int .i64 0] ∧ Below w.heap.size w w' :=
  flow_Back.calls 40 (⟨#[]⟩ : ByteArray) false 0 1 none 0 [] A5 c5 flow_ex _ w (Kd.C_nil _ _) (Nat.le_refl _) hr hc flow_ex_back
theorem flow_ex_Live (w : World) (A5 : Option Addr) (c5 : Nat) (hr : Kd.C k45 w A5 3 flow_ex) (hc : 3 ≤ c5) : Calls Try.prog 18 #[.agg #[.string (⟨#[]⟩ : ByteArray), .bool false, .int .i64 0, .int .i64 1, .slice none 0 0, .slice A5 3 c5]] w fun e w' => ∃ vi vo Gi Go, e = .returned (.tuple #[vi, vo]) ∧ flow_Lv w w' vi vo Gi Go [[true], [true], [true]] [[true], [true], [true]] 1 :=
  flow_Live.calls 40 (⟨#[]⟩ : ByteArray) false 0 1 none 0 [] A5 c5 flow_ex _ w (Kd.C_nil _ _) (Nat.le_refl _) hr hc flow_ex_live
def flow_awake16.T2 : Bool × List (List Nat × List Nat) := (true, [([], []), ([0], [0]), ([], []), ([2, 1], [2]), ([1, 3, 0, 1], [1]), ([3, 4, 0, 1, 2, 3, 4], [3])])
def flow_awake16.B2 : List Nat := [0, 1, 0, 7, 15, 31]
theorem flow_awake16.tab2 : rtab .any (opsOf Try.f17 2) = flow_awake16.T2 := by kernel_rfl
theorem flow_awake16.bits2 : waitsOk flow_awake16.T2.2 flow_awake16.B2 = true := by kernel_rfl
set_option maxHeartbeats 8000000 in
set_option maxRecDepth 100000 in
theorem flow_awake.calls (w : World) : Calls Try.prog 17 #[] w fun e w' => e = .returned (.bool true) ∧ Below w.heap.size w w' := by
  have hu31 := Try.underlying31
  have hu38 := Try.underlying38
  have hu41 := Try.underlying41
  have hu45 := Try.underlying45
  have hu29 := Try.underlying29
  have hu46 := Try.underlying46
  have hu48 := Try.underlying48
  have hu52 := Try.underlying52
  go_enter Try.func17, Try.ntmps17
  go_upto_region 2 with (first | ((with_reducible refine gate_dst (N := 9) rfl ?_); refine Kd.R_lit k45 _ 45 ?hg (N := 9) ?hd (xs := flow_ex) (inner := [.slice none 0 0, .int .i64 1, .int .i64 (-1), .int .i64 1, .int .i64 0, .slice none 0 0, .int .i64 2, .int .i64 0, .int .i64 2, .int .i64 0, .slice none 0 0, .int .i64 3, .int .i64 0, .int .i64 0, .int .i64 0]) (ok := fun _ => True) (okp := fun _ => True) ?hr ?hp (fun _ hk => hk) trivial (Below.refl _ _) (Nat.le_refl _) (by decide) ?_; (case hd => rfl); (case hg => rfl); (case hr => first | (go_simp; done) | (go_simp; rfl)); (case hp => exact (Reps.c5 (k45_mkM _ _ _ (⟨[], 1, -1, 1, 0⟩ : S45) (Kd.R_nil _ _ _ _ _)) (Reps.c5 (k45_mkM _ _ _ (⟨[], 2, 0, 2, 0⟩ : S45) (Kd.R_nil _ _ _ _ _)) (Reps.c5 (k45_mkM _ _ _ (⟨[], 3, 0, 0, 0⟩ : S45) (Kd.R_nil _ _ _ _ _)) (Reps.none _ _))))); intro v9 w1 ho hb hg_ hnew_; obtain ⟨A5, c5, ev⟩ := Kd.R_slice ho; have e3 : flow_ex.length = 3 := rfl; rw [e3] at ev; subst ev; have HBL := Aside0.mk ho; have HB := Aside0.mk hb; clear ho hb hg_ hnew_ e3))
  have hbk := blk_new w1 (.cells #[.string (⟨#[]⟩ : ByteArray), .bool false, .int .i64 0, .int .i64 1, .slice none 0 0, .slice A5 3 c5] 31)
  have hrd := Kd.R_reads' (show Kd.R k45 45 w1 w.heap.size (fun _ => True) (.slice A5 flow_ex.length c5) flow_ex from HBL.out)
  have HC5 := Aside0.mk (Kd.C_below (show Kd.C k45 w1 A5 3 flow_ex from hrd.2.2) (below_alloc (Below.refl w1.heap.size w1) (.cells #[.string (⟨#[]⟩ : ByteArray), .bool false, .int .i64 0, .int .i64 1, .slice none 0 0, .slice A5 3 c5] 31)))
  have HCC := Aside0.mk (show 3 ≤ c5 from hrd.2.1)
  have HB2 := Aside0.mk (below_alloc HB.out (.cells #[.string (⟨#[]⟩ : ByteArray), .bool false, .int .i64 0, .int .i64 1, .slice none 0 0, .slice A5 3 c5] 31))
  have HM := Aside0.mk (blk_lt hbk)
  clear hrd HBL HB
  generalize w1.alloc (.cells #[.string (⟨#[]⟩ : ByteArray), .bool false, .int .i64 0, .int .i64 1, .slice none 0 0, .slice A5 3 c5] 31) = w2 at hbk HC5 HB2 HM ⊢
  generalize w1.heap.size = b1 at hbk HM ⊢
  have g0 : w2.cell? ⟨b1, 0, none⟩ = some (.string (⟨#[]⟩ : ByteArray)) := (blk_cell hbk 0).trans rfl
  have g1 : w2.cell? ⟨b1, 1, none⟩ = some (.bool false) := (blk_cell hbk 1).trans rfl
  have g2 : w2.cell? ⟨b1, 2, none⟩ = some (.int .i64 0) := (blk_cell hbk 2).trans rfl
  have g3 : w2.cell? ⟨b1, 3, none⟩ = some (.int .i64 1) := (blk_cell hbk 3).trans rfl
  have g4 : w2.cell? ⟨b1, 4, none⟩ = some (.slice none 0 0) := (blk_cell hbk 4).trans rfl
  have g5 : w2.cell? ⟨b1, 5, none⟩ = some (.slice A5 3 c5) := (blk_cell hbk 5).trans rfl
  clear hbk
  refine start_ (n := 6) (S := fun w' => w'.cell? ⟨b1, 0, none⟩ = some (.string (⟨#[]⟩ : ByteArray)) ∧ w'.cell? ⟨b1, 1, none⟩ = some (.bool false) ∧ w'.cell? ⟨b1, 2, none⟩ = some (.int .i64 0) ∧ w'.cell? ⟨b1, 3, none⟩ = some (.int .i64 1) ∧ w'.cell? ⟨b1, 4, none⟩ = some (.slice none 0 0) ∧ w'.cell? ⟨b1, 5, none⟩ = some (.slice A5 3 c5)) (ds := []) #[false, false, false, false, false, false] (by kernel_rfl) rfl rfl ⟨g0, g1, g2, g3, g4, g5⟩ (fun hHeld => ?_)
  refine with_tabW flow_awake16.tab2 flow_awake16.bits2 (fun HT_ HW_ => ?_)
  refine take_ (i := 0) (N := some 11) (v := ?_) (a' := ?_) #[true, false, false, false, false, false] rfl rfl (take_ofW HT_.out HW_.out (by kernel_rfl)) (fun _ _ _ h => h) (Or.inl ⟨by rfl, ?_⟩) hHeld ?_ ?_
  rotate_left
  · rintro w' ⟨s0, s1, s2, s3, s4, s5⟩
    go_simp
    with_reducible rfl
  rotate_left
  · simp only [Act.put, List.setIfInBounds_toArray, List.set_cons_zero, List.set_cons_succ, i64_w, i32_w]
    rfl
  refine take_ (i := 2) (N := some 13) (v := ?_) (a' := ?_) #[true, false, true, false, false, false] rfl rfl (take_ofW HT_.out HW_.out (by kernel_rfl)) (fun _ _ _ h => h) (Or.inl ⟨by rfl, ?_⟩) hHeld ?_ ?_
  rotate_left
  · rintro w' ⟨s0, s1, s2, s3, s4, s5⟩
    go_simp
    with_reducible rfl
  rotate_left
  · simp only [Act.put, List.setIfInBounds_toArray, List.set_cons_zero, List.set_cons_succ, i64_w, i32_w]
    rfl
  refine one_ (i := 1) (N := some 12) #[true, true, true, false, false, false] rfl rfl (one_of HT_.out (by kernel_rfl)) (by decide) (fun K hK => ?_)
  refine goes_ Try.func20 (by kernel_rfl) rfl #[.agg #[.string (⟨#[]⟩ : ByteArray), .bool false, .int .i64 0, .int .i64 1, .slice none 0 0, .slice A5 3 c5]] (by rfl) rfl rfl (by simp only [List.map_toArray, List.map_cons, List.map_nil]; rfl) ?_
  with_reducible refine (flow_ex_Order _ A5 c5 (Kd.C_below HC5.out (below_drew (Below.refl _ _))) HCC.out).mono ?_
  rintro e w3 ⟨vO, rfl, hR, hb⟩
  refine ⟨_, rfl, ?_⟩
  have HR3 := Aside0.mk hR
  have HB3 := Aside0.mk (below_step (below_drew (Below.refl w2.heap.size w2)) hb)
  clear hR hb
  refine hK.out _ _ ⟨(HB3.out.cell HM.out).trans g0, (HB3.out.cell HM.out).trans g1, (HB3.out.cell HM.out).trans g2, (HB3.out.cell HM.out).trans g3, (HB3.out.cell HM.out).trans g4, (HB3.out.cell HM.out).trans g5⟩ (fun hHeld => ?_)
  clear hK K
  refine norm_ (a' := ?_) ?_ ?_
  rotate_left
  · show Act.put _ (some 12) _ = _
    simp only [Act.put, List.setIfInBounds_toArray, List.set_cons_zero, List.set_cons_succ, i64_w, i32_w]
    rfl
  refine one_ (i := 3) (N := some 14) #[true, true, true, true, false, false] rfl rfl (one_of HT_.out (by kernel_rfl)) (by decide) (fun K hK => ?_)
  refine goes_ Try.func21 (by kernel_rfl) rfl #[.agg #[.string (⟨#[]⟩ : ByteArray), .bool false, .int .i64 0, .int .i64 1, .slice none 0 0, .slice A5 3 c5]] (by rfl) rfl rfl (by simp only [List.map_toArray, List.map_cons, List.map_nil]; rfl) ?_
  with_reducible refine (flow_ex_Back _ A5 c5 (Kd.C_below HC5.out HB3.out) HCC.out).mono ?_
  rintro e w4 ⟨vB, rfl, hR, hb⟩
  refine ⟨_, rfl, ?_⟩
  have HR4 := Aside0.mk hR
  have HB4 := Aside0.mk (below_step HB3.out hb)
  have HS4 := Aside0.mk hb
  clear hR hb
  refine hK.out _ _ ⟨(HB4.out.cell HM.out).trans g0, (HB4.out.cell HM.out).trans g1, (HB4.out.cell HM.out).trans g2, (HB4.out.cell HM.out).trans g3, (HB4.out.cell HM.out).trans g4, (HB4.out.cell HM.out).trans g5⟩ (fun hHeld => ?_)
  clear hK K
  refine norm_ (a' := ?_) ?_ ?_
  rotate_left
  · show Act.put _ (some 14) _ = _
    simp only [Act.put, List.setIfInBounds_toArray, List.set_cons_zero, List.set_cons_succ, i64_w, i32_w]
    rfl
  refine pure_ (i := 4) (N := some 2) (v := ?_) (a' := ?_) #[true, true, true, true, true, false] rfl rfl (any_of HT_.out (by kernel_rfl)) (fun _ _ _ h => h) (Or.inl ⟨by rfl, ?_⟩) ?_ ?_
  rotate_left
  · intro w'
    go_simp
    with_reducible rfl
  rotate_left
  · simp only [Act.put, List.setIfInBounds_toArray, List.set_cons_zero, List.set_cons_succ, i64_w, i32_w]
    rfl
  refine pure_ (i := 5) (N := some 3) (v := ?_) (a' := ?_) #[true, true, true, true, true, true] rfl rfl (any_of HT_.out (by kernel_rfl)) (fun _ _ _ h => h) (Or.inl ⟨by rfl, ?_⟩) ?_ ?_
  rotate_left
  · intro w'
    go_simp
    with_reducible rfl
  rotate_left
  · simp only [Act.put, List.setIfInBounds_toArray, List.set_cons_zero, List.set_cons_succ, i64_w, i32_w]
    rfl
  refine done_ (done_of HT_.out (by kernel_rfl)) ?_
  replace g0 := (HB4.out.cell HM.out).trans g0
  replace g1 := (HB4.out.cell HM.out).trans g1
  replace g2 := (HB4.out.cell HM.out).trans g2
  replace g3 := (HB4.out.cell HM.out).trans g3
  replace g4 := (HB4.out.cell HM.out).trans g4
  replace g5 := (HB4.out.cell HM.out).trans g5
  go_upto_region 4 with (go_at_call 18; refine (flow_ex_Live _ A5 c5 (Kd.C_below HC5.out HB4.out) HCC.out).mono ?_; rintro e w5 ⟨vi, vo, Gi, Go, rfl, hL⟩; have HL := Aside0.mk hL; clear hL)
  have RO := Kd.R_below (Kd.R_below HR3.out HS4.out) HL.out.below
  obtain ⟨go, co, eo, _⟩ := Kd.R_form RO (by decide)
  have eo' : vO = .slice (some ⟨go, 0, none⟩) 3 co := eo
  subst eo'
  have o0 : w5.cell? ⟨go, 0, none⟩ = some (.int .i64 0) := (Kd.R_celln (enc := Value.int .i64) (h1 := fun _ => rfl) (0 : Int) RO 0 (by omega) (by omega)).1
  have o1 : w5.cell? ⟨go, 1, none⟩ = some (.int .i64 1) := (Kd.R_celln (enc := Value.int .i64) (h1 := fun _ => rfl) (0 : Int) RO 1 (by omega) (by omega)).1
  have o2 : w5.cell? ⟨go, 2, none⟩ = some (.int .i64 2) := (Kd.R_celln (enc := Value.int .i64) (h1 := fun _ => rfl) (0 : Int) RO 2 (by omega) (by omega)).1
  obtain ⟨gb, cb, eb, hcb⟩ := flow_own_cells (own_other HR4.out (grown_below HL.out.below) (by simp)) (by omega)
  subst eb
  have q0 := hcb 0 _ rfl
  have q1 := hcb 1 _ rfl
  have lgi : Gi.length = 3 := HL.out.li
  obtain ⟨gi, hgi⟩ : ∃ gi, Gi[0]? = some gi := ⟨_, List.getElem?_eq_getElem (show 0 < Gi.length by omega)⟩
  obtain ⟨bi, ci, ei, r0⟩ := flow_cellOf HL.out.oi hgi
  rw [lgi] at ei
  subst ei
  have r1 : w5.cell? ⟨gi, 0, none⟩ = some (.bool true) := (blk_cell (HL.out.ri 0 gi [true] hgi rfl).2 0).trans rfl
  have HBE := Aside0.mk (below_step HB2.out (below_step HB4.out HL.out.below))
  have heq := flow_eq52 w5 1 0 1 0
  clear RO eo hcb lgi hgi
  go_wp2

  go_ret
  exact ⟨rfl, HBE.out⟩
end Go.Proofs.Ytppanpboejpmjaa.Tr
