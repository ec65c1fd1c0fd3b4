/- FlowLead: functions of the program walked by hand, and what they come to. -/
import Derived.Test.YtppanpboejpmjaaProg
import Derived.Below
import Derived.Deep.Draws
import Derived.Deep.AppendLies
import Derived.Maps.AppendAt
import Derived.OwnWalk
import Derived.Laws.BytesArg
import Derived.Laws.MakeOwn
import Derived.Laws.OwnMore
import Derived.Deep.OwnRows
import Derived.Tactics
import Derived.Lib.ConvBytes
import Derived.Laws.Slices
import Derived.WalkKit
import Derived.KernelRfl
import Derived.RowKit3
import Derived.Deep.LoopGhost
import Derived.Deep.QuietTactic
import Derived.BigQuiet
import Derived.WideLaws
import Derived.Deep.DeepCutAuto
import Derived.Deep.CutBlock
import Derived.Deep.RegionHeld3
import Derived.Laws.Rows
import Derived.Lib.AppendStr
import Derived.ArgAppend
import Derived.Laws.IdiomCopy
import Derived.OrdersHeld
import Derived.Laws.BitsLemmas
import Derived.RowKit
import Derived.Shelf.SlicesE.DeleteFunc
import Derived.Test.YtppanpboejpmjaaWWords
import Derived.Test.YtppanpboejpmjaaWLast
import Derived.Test.YtppanpboejpmjaaWTab
import Derived.Test.YtppanpboejpmjaaWFour
import Derived.Test.YtppanpboejpmjaaWQPut
import Derived.Test.YtppanpboejpmjaaWApart
import Derived.Test.YtppanpboejpmjaaWArr
import Derived.Test.YtppanpboejpmjaaWZeros
import Derived.Test.YtppanpboejpmjaaWFoot
import Derived.Test.YtppanpboejpmjaaWKept
import Derived.Test.YtppanpboejpmjaaWShare
import Derived.Test.YtppanpboejpmjaaWN
import Derived.Test.YtppanpboejpmjaaWFootNe
import Derived.Test.YtppanpboejpmjaaWAt
import Derived.Test.YtppanpboejpmjaaWEqStruct
import Derived.Test.YtppanpboejpmjaaWRepsOne
import Derived.Test.YtppanpboejpmjaaWInv
import Derived.Test.YtppanpboejpmjaaWInvWords
import Derived.Test.YtppanpboejpmjaaWGuard
import Derived.Test.YtppanpboejpmjaaWNEv
import Derived.Test.YtppanpboejpmjaaWMore
import Derived.Test.YtppanpboejpmjaaTr0
import Derived.Test.YtppanpboejpmjaaFlowN
import Derived.Test.YtppanpboejpmjaaFlowP
import Derived.Test.YtppanpboejpmjaaTr16
import Derived.Test.YtppanpboejpmjaaFlowV
import Derived.Test.YtppanpboejpmjaaWTab
import Derived.Outline
set_option linter.all false
namespace Go.Proofs.Ytppanpboejpmjaa.Tr
open Go.RowKit Go.Proofs.YtppanpboejpmjaaW.PrintWords Go.Proofs.YtppanpboejpmjaaW.PrintLast Go.Proofs.YtppanpboejpmjaaW.PrintMore
set_option linter.unusedVariables false
/-- what the walk of FlowLeads asks of a procedure -/
def leads_ok (a0 : ByteArray) (a1 : Bool) (a2 a3 : Int) (l4 : List S76) (l5 : List S45) : Prop := ∃ (k : Nat) (P : List (List Int)) (R : List Bool) (B : List (Int × Int)) (Od st lf : List Int), l5.length ≤ 40 ∧ flow_Preds.f k a0 a1 a2 a3 l4 l5 = some P ∧ flow_Reach.f k a0 a1 a2 a3 l4 l5 = some R ∧ flow_Back.f k a0 a1 a2 a3 l4 l5 = some B ∧ rushlightref16_Reach.f k a0 a1 a2 a3 l4 l5 = some R ∧ ref_Walked.f k a0 a1 a2 a3 l4 l5 = some (st, lf, B) ∧
  flow_Order.f k a0 a1 a2 a3 l4 l5 = some Od ∧ ref_Order.f k a0 a1 a2 a3 l4 l5 = some Od ∧ rushlightlaw16_same.f k Od Od = some true ∧ P.length = l5.length ∧ R.length = l5.length ∧ B.length ≤ 1000 ∧ (∀ i : Nat, i < l5.length → rushlightref16_Preds.f k a0 a1 a2 a3 l4 l5 (i : Int) = some (rd_L4 P (i : Int))) ∧ (∀ i : Nat, i < l5.length → rushlightlaw16_same.f k (rd_L4 P (i : Int)) (rd_L4 P (i : Int)) = some true)
theorem lead_back {w : World} {base g c n i : Nat} {B : List (Int × Int)} (h : w.ownsRow base 52 2 (.slice (some ⟨g, 0, none⟩) n c) B.length (B.flatMap fun x => [.int .i64 x.1, .int .i64 x.2])) (hi : i < B.length) : w.cell? ⟨g, i * 2, none⟩ = some (.int .i64 B[i].1) ∧ w.cell? ⟨g, i * 2 + 1, none⟩ = some (.int .i64 B[i].2) := by
  obtain ⟨g', cap, e, hc⟩ := flow_own_cells h (by omega)
  injection e with e _ _
  injection e with e
  injection e with e
  subst e
  have hx : ∀ (B : List (Int × Int)) (i : Nat) (hi : i < B.length), (B.flatMap fun x => [Value.int .i64 x.1, .int .i64 x.2])[i * 2]? = some (.int .i64 B[i].1) ∧ (B.flatMap fun x => [Value.int .i64 x.1, .int .i64 x.2])[i * 2 + 1]? = some (.int .i64 B[i].2) := by
    intro B
    induction B with
    | nil => intro i hi; simp at hi
    | cons a B ih =>
      intro i hi
      cases i with
      | zero => simp
      | succ i =>
        have := ih i (by simpa using hi)
        rw [List.flatMap_cons, show (i + 1) * 2 = i * 2 + 1 + 1 by omega]
        simpa using this
  exact ⟨hc _ _ (hx B i hi).1, hc _ _ (hx B i hi).2⟩
def flow_lead3.T3 : Bool × List (List Nat × List Nat) := (true, [([], []), ([0], [0]), ([], []), ([2, 1], [2]), ([], []), ([4, 3], [4]), ([1, 5, 0, 1], [1]), ([3, 6, 0, 1, 2, 3, 6], [3]), ([5, 7, 0, 1, 2, 3, 4, 5, 6, 7], [5])])
def flow_lead3.B3 : List Nat := [0, 1, 0, 7, 0, 31, 63, 127, 255]
theorem flow_lead3.tab3 : rtab .any (opsOf Try.f7 3) = flow_lead3.T3 := by kernel_rfl
theorem flow_lead3.bits3 : waitsOk flow_lead3.T3.2 flow_lead3.B3 = true := by kernel_rfl
def flow_lead6.T6 : Bool × List (List Nat × List Nat) := (true, [([], []), ([0], [0]), ([], []), ([2], [2]), ([3], [3]), ([1, 4], [1, 4]), ([5], [5]), ([6], [6]), ([7, 6], [6, 7]), ([6], [6]), ([9, 6], [6, 9]), ([8, 10, 6], [6, 8, 10]), ([6, 11], [6, 11]), ([12, 6], [12]), ([13], [13]), ([14, 13], [13, 14]), ([13], [13]), ([16, 13], [13, 16]), ([17, 13], [13, 17]), ([15, 18, 13], [13, 15, 18]), ([13, 19], [13, 19]), ([20, 13], [20]), ([21], [21]), ([22, 21, 21], [21, 22]), ([21], [21]), ([24, 23, 21], [21, 24]), ([23, 25, 25, 21], [21, 23, 25]), ([26, 21], [21, 26]), ([21, 27], [21, 27])])
def flow_lead6.B6 : List Nat := [0, 1, 0, 4, 12, 31, 63, 127, 255, 127, 639, 2047, 4095, 8191, 16383, 32767, 16383, 81919, 212991, 524287, 1048575, 2097151, 4194303, 8388607, 4194303, 33554431, 67108863, 134217727, 268435455]
theorem flow_lead6.tab6 : rtab .any (opsOf Try.f7 6) = flow_lead6.T6 := by kernel_rfl
theorem flow_lead6.bits6 : waitsOk flow_lead6.T6.2 flow_lead6.B6 = true := by kernel_rfl
def flow_lead11.T11 : Bool × List (List Nat × List Nat) := (true, [([], []), ([], []), ([0, 1], [0, 1]), ([2], [2]), ([], []), ([], []), ([4, 5], [4, 5]), ([6], [6]), ([3, 7], [3, 7]), ([8], [8]), ([9], [9]), ([9], [9]), ([10, 11, 9], [9, 10, 11]), ([12, 9], [9, 12]), ([9], [9]), ([9], [9]), ([14, 15, 9, 9], [9, 14, 15]), ([13, 16, 16, 9], [9, 13, 16]), ([17, 9], [9, 17]), ([9, 18], [9, 18])])
def flow_lead11.B11 : List Nat := [0, 0, 3, 7, 0, 0, 48, 112, 255, 511, 1023, 1023, 4095, 8191, 1023, 1023, 50175, 131071, 262143, 524287]
theorem flow_lead11.tab11 : rtab .any (opsOf Try.f7 11) = flow_lead11.T11 := by kernel_rfl
theorem flow_lead11.bits11 : waitsOk flow_lead11.T11.2 flow_lead11.B11 = true := by kernel_rfl
def flow_lead16.T16 : Bool × List (List Nat × List Nat) := (true, [([], []), ([], []), ([0, 1], [0, 1]), ([2], [2]), ([], []), ([4], [4]), ([], []), ([5, 6], [5, 6]), ([7], [7]), ([3, 8], [3, 8])])
def flow_lead16.B16 : List Nat := [0, 0, 3, 7, 0, 16, 0, 112, 240, 511]
theorem flow_lead16.tab16 : rtab .any (opsOf Try.f7 16) = flow_lead16.T16 := by kernel_rfl
theorem flow_lead16.bits16 : waitsOk flow_lead16.T16.2 flow_lead16.B16 = true := by kernel_rfl
set_option maxHeartbeats 8000000 in
set_option maxRecDepth 100000 in
theorem flow_FlowLeads.walk (a0 : ByteArray) (a1 : Bool) (a2 a3 : Int) (A4 : Option Addr) (c4 : Nat) (l4 : List S76) (A5 : Option Addr) (c5 : Nat) (l5 : List S45) (w0 : World)
    (hr4 : Kd.C k76 w0 A4 l4.length l4) (hc4 : l4.length ≤ c4) (hr5 : Kd.C k45 w0 A5 l5.length l5) (hc5 : l5.length ≤ c5) (hok : a3 ≤ 30 ∧ law_okP l5 → leads_ok a0 a1 a2 a3 l4 l5) :
    Calls Try.prog 7 #[.agg #[.string a0, .bool a1, .int .i64 a2, .int .i64 a3, .slice A4 l4.length c4, .slice A5 l5.length c5]] w0 fun e w' => e = .returned (.bool true) ∧ Below w0.heap.size w0 w' := by
  have hu31 := Try.underlying31
  have hu46 := Try.underlying46
  have hu48 := Try.underlying48
  have hu52 := Try.underlying52
  have hu58 := Try.underlying58
  have hu61 := Try.underlying61
  have hu41 := Try.underlying41
  have hu29 := Try.underlying29
  have BW := Aside0.mk (below_alloc (Below.refl w0.heap.size w0) (.cells #[.string a0, .bool a1, .int .i64 a2, .int .i64 a3, .slice A4 l4.length c4, .slice A5 l5.length c5] 31))
  have BX := Aside0.mk (blk_new w0 (.cells #[.string a0, .bool a1, .int .i64 a2, .int .i64 a3, .slice A4 l4.length c4, .slice A5 l5.length c5] 31))
  have HR4 := Aside0.mk hr4
  have HR5 := Aside0.mk hr5
  have HC4 := Aside0.mk hc4
  have HC5 := Aside0.mk hc5
  have HOK := Aside0.mk hok
  clear hr4 hr5 hc4 hc5 hok
  go_enter Try.func7, Try.ntmps7
  go_upto_region 3 with (go_at_call 16; refine (law16_few.calls a0 a1 a2 a3 A4 c4 l4 A5 c5 l5 _ (Kd.C_below HR4.out BW.out) HC4.out (Kd.C_below HR5.out BW.out) HC5.out).mono ?_; rintro e w1 ⟨bb, rfl, hbb, hb⟩; have HBB := Aside0.mk hbb; have HB1 := Aside0.mk (below_step BW.out hb); have BX1 := Aside0.mk (blk_below BX.out hb); cases bb; clear hbb hb)
  · go_wp2_with (go_at_call 17; refine (flow_awake.calls _).mono ?_; rintro e w2 ⟨rfl, hb⟩; have HB2 := Aside0.mk (below_step HB1.out hb); clear hb)
    go_ret
    exact ⟨rfl, HB2.out⟩
  obtain ⟨k, P, R, B, Od, st, lf, hN, h1, h2, h3, h4, h5, h6, h7, h8, h9, h10, h11, h12, h13⟩ := HOK.out (by first | exact HBB.out rfl | exact HBB.out trivial)
  have Q1 := Aside0.mk h1
  have Q2 := Aside0.mk h2
  have Q3 := Aside0.mk h3
  have Q4 := Aside0.mk h4
  have Q5 := Aside0.mk h5
  have Q6 := Aside0.mk h6
  have Q7 := Aside0.mk h7
  have Q8 := Aside0.mk h8
  have Q9 := Aside0.mk h9
  have Q10 := Aside0.mk h10
  have Q12 := Aside0.mk h12
  have Q13 := Aside0.mk h13
  clear h1 h2 h3 h4 h5 h6 h7 h8 h9 h10 h12 h13
  have f0 : w1.cell? ⟨w0.heap.size, 0, none⟩ = some (.string a0) := (blk_cell BX1.out 0).trans rfl
  have f1 : w1.cell? ⟨w0.heap.size, 1, none⟩ = some (.bool a1) := (blk_cell BX1.out 1).trans rfl
  have f2 : w1.cell? ⟨w0.heap.size, 2, none⟩ = some (.int .i64 a2) := (blk_cell BX1.out 2).trans rfl
  have f3 : w1.cell? ⟨w0.heap.size, 3, none⟩ = some (.int .i64 a3) := (blk_cell BX1.out 3).trans rfl
  have f4 : w1.cell? ⟨w0.heap.size, 4, none⟩ = some (.slice A4 l4.length c4) := (blk_cell BX1.out 4).trans rfl
  have f5 : w1.cell? ⟨w0.heap.size, 5, none⟩ = some (.slice A5 l5.length c5) := (blk_cell BX1.out 5).trans rfl
  have HM := Aside0.mk (blk_lt BX1.out)
  refine start_ (n := 9) (S := fun w' => w'.cell? ⟨w0.heap.size, 0, none⟩ = some (.string a0) ∧ w'.cell? ⟨w0.heap.size, 1, none⟩ = some (.bool a1) ∧ w'.cell? ⟨w0.heap.size, 2, none⟩ = some (.int .i64 a2) ∧ w'.cell? ⟨w0.heap.size, 3, none⟩ = some (.int .i64 a3) ∧ w'.cell? ⟨w0.heap.size, 4, none⟩ = some (.slice A4 l4.length c4) ∧ w'.cell? ⟨w0.heap.size, 5, none⟩ = some (.slice A5 l5.length c5)) (ds := []) #[false, false, false, false, false, false, false, false, false] (by kernel_rfl) rfl rfl ⟨f0, f1, f2, f3, f4, f5⟩ (fun hHeld => ?_)
  refine with_tabW flow_lead3.tab3 flow_lead3.bits3 (fun HT_ HW_ => ?_)
  refine take_ (i := 0) (N := some 14) (v := ?_) (a' := ?_) #[true, false, false, false, false, false, false, false, false] rfl rfl (take_ofW HT_.out HW_.out (by kernel_rfl)) (fun _ _ _ h => h) (Or.inl ⟨by rfl, ?_⟩) hHeld ?_ ?_
  rotate_left
  · rintro w' ⟨s0, s1, s2, s3, s4, s5⟩
    go_simp
    with_reducible rfl
  rotate_left
  · simp only [Act.put, List.setIfInBounds_toArray, List.set_cons_zero, List.set_cons_succ, i64_w, i32_w]
    rfl
  refine take_ (i := 2) (N := some 16) (v := ?_) (a' := ?_) #[true, false, true, false, false, false, false, false, false] rfl rfl (take_ofW HT_.out HW_.out (by kernel_rfl)) (fun _ _ _ h => h) (Or.inl ⟨by rfl, ?_⟩) hHeld ?_ ?_
  rotate_left
  · rintro w' ⟨s0, s1, s2, s3, s4, s5⟩
    go_simp
    with_reducible rfl
  rotate_left
  · simp only [Act.put, List.setIfInBounds_toArray, List.set_cons_zero, List.set_cons_succ, i64_w, i32_w]
    rfl
  refine take_ (i := 4) (N := some 18) (v := ?_) (a' := ?_) #[true, false, true, false, true, false, false, false, false] rfl rfl (take_ofW HT_.out HW_.out (by kernel_rfl)) (fun _ _ _ h => h) (Or.inl ⟨by rfl, ?_⟩) hHeld ?_ ?_
  rotate_left
  · rintro w' ⟨s0, s1, s2, s3, s4, s5⟩
    go_simp
    with_reducible rfl
  rotate_left
  · simp only [Act.put, List.setIfInBounds_toArray, List.set_cons_zero, List.set_cons_succ, i64_w, i32_w]
    rfl
  refine one_ (i := 1) (N := some 15) #[true, true, true, false, true, false, false, false, false] rfl rfl (one_of HT_.out (by kernel_rfl)) (by decide) (fun K hK => ?_)
  refine goes_ Try.func25 (by kernel_rfl) rfl #[.agg #[.string a0, .bool a1, .int .i64 a2, .int .i64 a3, .slice A4 l4.length c4, .slice A5 l5.length c5]] (by rfl) rfl rfl (by simp only [List.map_toArray, List.map_cons, List.map_nil]; rfl) ?_
  with_reducible refine (flow_Preds.calls k a0 a1 a2 a3 A4 c4 l4 A5 c5 l5 P _ (Kd.C_below HR4.out (below_step HB1.out (below_drew (Below.refl _ _)))) HC4.out (Kd.C_below HR5.out (below_step HB1.out (below_drew (Below.refl _ _)))) HC5.out Q1.out).mono ?_
  rintro e w2 ⟨vP, rfl, hR, hb⟩
  refine ⟨_, rfl, ?_⟩
  obtain ⟨AP, cP, ev⟩ := Kd.S_slice hR
  subst ev
  have SP2 := Aside0.mk hR
  have HB2 := Aside0.mk (below_step (below_drew (Below.refl w1.heap.size w1)) hb)
  obtain ⟨z0, z1, z2, z3, z4, z5⟩ := hHeld
  refine hK.out _ _ ⟨(hb.cell (World.block_lt_of_cell? _ _ z0)).trans z0, (hb.cell (World.block_lt_of_cell? _ _ z1)).trans z1, (hb.cell (World.block_lt_of_cell? _ _ z2)).trans z2, (hb.cell (World.block_lt_of_cell? _ _ z3)).trans z3, (hb.cell (World.block_lt_of_cell? _ _ z4)).trans z4, (hb.cell (World.block_lt_of_cell? _ _ z5)).trans z5⟩ (fun hHeld => ?_)
  clear hK K
  refine norm_ (a' := ?_) ?_ ?_
  rotate_left
  · show Act.put _ (some 15) _ = _
    simp only [Act.put, List.setIfInBounds_toArray, List.set_cons_zero, List.set_cons_succ, i64_w, i32_w]
    rfl
  refine one_ (i := 3) (N := some 17) #[true, true, true, true, true, false, false, false, false] rfl rfl (one_of HT_.out (by kernel_rfl)) (by decide) (fun K hK => ?_)
  refine goes_ Try.func22 (by kernel_rfl) rfl #[.agg #[.string a0, .bool a1, .int .i64 a2, .int .i64 a3, .slice A4 l4.length c4, .slice A5 l5.length c5]] (by rfl) rfl rfl (by simp only [List.map_toArray, List.map_cons, List.map_nil]; rfl) ?_
  with_reducible refine (flow_Reach.calls k a0 a1 a2 a3 A4 c4 l4 A5 c5 l5 R _ (Kd.C_below HR4.out (below_step HB1.out HB2.out)) HC4.out (Kd.C_below HR5.out (below_step HB1.out HB2.out)) HC5.out Q2.out).mono ?_
  rintro e w3 ⟨vR, rfl, hR, hb⟩
  refine ⟨_, rfl, ?_⟩
  obtain ⟨AR, cR, ev⟩ := Kd.R_slice hR
  subst ev
  have SP3 := Aside0.mk (Kd.S_below SP2.out hb)
  have SR3 := Aside0.mk hR
  have HB3 := Aside0.mk (below_step HB2.out hb)
  obtain ⟨z0, z1, z2, z3, z4, z5⟩ := hHeld
  refine hK.out _ _ ⟨(hb.cell (World.block_lt_of_cell? _ _ z0)).trans z0, (hb.cell (World.block_lt_of_cell? _ _ z1)).trans z1, (hb.cell (World.block_lt_of_cell? _ _ z2)).trans z2, (hb.cell (World.block_lt_of_cell? _ _ z3)).trans z3, (hb.cell (World.block_lt_of_cell? _ _ z4)).trans z4, (hb.cell (World.block_lt_of_cell? _ _ z5)).trans z5⟩ (fun hHeld => ?_)
  clear hK K
  refine norm_ (a' := ?_) ?_ ?_
  rotate_left
  · show Act.put _ (some 17) _ = _
    simp only [Act.put, List.setIfInBounds_toArray, List.set_cons_zero, List.set_cons_succ, i64_w, i32_w]
    rfl
  refine one_ (i := 5) (N := some 19) #[true, true, true, true, true, true, false, false, false] rfl rfl (one_of HT_.out (by kernel_rfl)) (by decide) (fun K hK => ?_)
  refine goes_ Try.func21 (by kernel_rfl) rfl #[.agg #[.string a0, .bool a1, .int .i64 a2, .int .i64 a3, .slice A4 l4.length c4, .slice A5 l5.length c5]] (by rfl) rfl rfl (by simp only [List.map_toArray, List.map_cons, List.map_nil]; rfl) ?_
  with_reducible refine (flow_Back.calls k a0 a1 a2 a3 A4 c4 l4 A5 c5 l5 B _ (Kd.C_below HR4.out (below_step HB1.out HB3.out)) HC4.out (Kd.C_below HR5.out (below_step HB1.out HB3.out)) HC5.out Q3.out).mono ?_
  rintro e w4 ⟨vB, rfl, hR, hb⟩
  refine ⟨_, rfl, ?_⟩
  obtain ⟨AB, cB, ev⟩ := flow_own_slice hR
  subst ev
  have SP4 := Aside0.mk (Kd.S_below SP3.out hb)
  have SR4 := Aside0.mk (Kd.R_below SR3.out hb)
  have SB4 := Aside0.mk hR
  have HB4 := Aside0.mk (below_step HB3.out hb)
  obtain ⟨z0, z1, z2, z3, z4, z5⟩ := hHeld
  refine hK.out _ _ ⟨(hb.cell (World.block_lt_of_cell? _ _ z0)).trans z0, (hb.cell (World.block_lt_of_cell? _ _ z1)).trans z1, (hb.cell (World.block_lt_of_cell? _ _ z2)).trans z2, (hb.cell (World.block_lt_of_cell? _ _ z3)).trans z3, (hb.cell (World.block_lt_of_cell? _ _ z4)).trans z4, (hb.cell (World.block_lt_of_cell? _ _ z5)).trans z5⟩ (fun hHeld => ?_)
  clear hK K
  refine norm_ (a' := ?_) ?_ ?_
  rotate_left
  · show Act.put _ (some 19) _ = _
    simp only [Act.put, List.setIfInBounds_toArray, List.set_cons_zero, List.set_cons_succ, i64_w, i32_w]
    rfl
  refine pure_ (i := 6) (N := some 3) (v := ?_) (a' := ?_) #[true, true, true, true, true, true, true, false, false] rfl rfl (any_of HT_.out (by kernel_rfl)) (fun _ _ _ h => h) (Or.inl ⟨by rfl, ?_⟩) ?_ ?_
  rotate_left
  · intro w'
    go_simp
    with_reducible rfl
  rotate_left
  · simp only [Act.put, List.setIfInBounds_toArray, List.set_cons_zero, List.set_cons_succ, i64_w, i32_w]
    rfl
  refine pure_ (i := 7) (N := some 4) (v := ?_) (a' := ?_) #[true, true, true, true, true, true, true, true, false] rfl rfl (any_of HT_.out (by kernel_rfl)) (fun _ _ _ h => h) (Or.inl ⟨by rfl, ?_⟩) ?_ ?_
  rotate_left
  · intro w'
    go_simp
    with_reducible rfl
  rotate_left
  · simp only [Act.put, List.setIfInBounds_toArray, List.set_cons_zero, List.set_cons_succ, i64_w, i32_w]
    rfl
  refine pure_ (i := 8) (N := some 5) (v := ?_) (a' := ?_) #[true, true, true, true, true, true, true, true, true] rfl rfl (any_of HT_.out (by kernel_rfl)) (fun _ _ _ h => h) (Or.inl ⟨by rfl, ?_⟩) ?_ ?_
  rotate_left
  · intro w'
    go_simp
    with_reducible rfl
  rotate_left
  · simp only [Act.put, List.setIfInBounds_toArray, List.set_cons_zero, List.set_cons_succ, i64_w, i32_w]
    rfl
  refine done_ (done_of HT_.out (by kernel_rfl)) ?_
  clear f0 f1 f2 f3 f4 f5 hHeld
  have f0 : w4.cell? ⟨w0.heap.size, 0, none⟩ = some (.string a0) := (blk_cell (blk_below BX1.out HB4.out) 0).trans rfl
  have f1 : w4.cell? ⟨w0.heap.size, 1, none⟩ = some (.bool a1) := (blk_cell (blk_below BX1.out HB4.out) 1).trans rfl
  have f2 : w4.cell? ⟨w0.heap.size, 2, none⟩ = some (.int .i64 a2) := (blk_cell (blk_below BX1.out HB4.out) 2).trans rfl
  have f3 : w4.cell? ⟨w0.heap.size, 3, none⟩ = some (.int .i64 a3) := (blk_cell (blk_below BX1.out HB4.out) 3).trans rfl
  have f4 : w4.cell? ⟨w0.heap.size, 4, none⟩ = some (.slice A4 l4.length c4) := (blk_cell (blk_below BX1.out HB4.out) 4).trans rfl
  have f5 : w4.cell? ⟨w0.heap.size, 5, none⟩ = some (.slice A5 l5.length c5) := (blk_cell (blk_below BX1.out HB4.out) 5).trans rfl
  go_upto_region 6 with (first | (go_at_call 26; refine (rushlightref16_Reach.calls k a0 a1 a2 a3 A4 c4 l4 A5 c5 l5 R _ (Kd.C_below HR4.out (below_step HB1.out HB4.out)) HC4.out (Kd.C_below HR5.out (below_step HB1.out HB4.out)) HC5.out Q4.out).mono ?_; rintro e w5 ⟨vR2, rfl, hR, hb⟩; obtain ⟨AR2, cR2, ev⟩ := Kd.R_slice hR; subst ev; have SP5 := Aside0.mk (Kd.S_below SP4.out hb); have SR5 := Aside0.mk (Kd.R_below SR4.out hb); have SB5 := Aside0.mk (own_other SB4.out (grown_below hb) (by simp)); have SQ5 := Aside0.mk hR; have HB5 := Aside0.mk (below_step HB4.out hb); have g0 : w5.cell? ⟨w0.heap.size, 0, none⟩ = some (.string a0) := (blk_cell (blk_below BX1.out HB5.out) 0).trans rfl; have g1 : w5.cell? ⟨w0.heap.size, 1, none⟩ = some (.bool a1) := (blk_cell (blk_below BX1.out HB5.out) 1).trans rfl; have g2 : w5.cell? ⟨w0.heap.size, 2, none⟩ = some (.int .i64 a2) := (blk_cell (blk_below BX1.out HB5.out) 2).trans rfl; have g3 : w5.cell? ⟨w0.heap.size, 3, none⟩ = some (.int .i64 a3) := (blk_cell (blk_below BX1.out HB5.out) 3).trans rfl; have g4 : w5.cell? ⟨w0.heap.size, 4, none⟩ = some (.slice A4 l4.length c4) := (blk_cell (blk_below BX1.out HB5.out) 4).trans rfl; have g5 : w5.cell? ⟨w0.heap.size, 5, none⟩ = some (.slice A5 l5.length c5) := (blk_cell (blk_below BX1.out HB5.out) 5).trans rfl; clear hb hR) | (go_at_call 27; refine (ref_Walked.calls k a0 a1 a2 a3 A4 c4 l4 A5 c5 l5 (st, lf, B) _ (Kd.C_below HR4.out (below_step HB1.out HB5.out)) HC4.out (Kd.C_below HR5.out (below_step HB1.out HB5.out)) HC5.out (by omega) Q5.out).mono ?_; rintro e w6 ⟨As, ns, cs, vl, vb, rfl, hl, hb2, hb⟩; obtain ⟨Al, cl, ev⟩ := flow_own_slice hl; subst ev; obtain ⟨Ab, cb, ev⟩ := flow_own_slice hb2; subst ev; have SP6 := Aside0.mk (Kd.S_below SP5.out hb); have SR6 := Aside0.mk (Kd.R_below SR5.out hb); have SB6 := Aside0.mk (own_other SB5.out (grown_below hb) (by simp)); have SQ6 := Aside0.mk (Kd.R_below SQ5.out hb); have SC6 := Aside0.mk hb2; have HB6 := Aside0.mk (below_step HB5.out hb); clear hb hl hb2))
  have hal := below_alloc (Below.refl w6.heap.size w6) (.cells #[.slice As ns cs, .slice Al lf.length cl, .slice Ab B.length cb] 61)
  have BW7 := Aside0.mk (blk_new w6 (.cells #[.slice As ns cs, .slice Al lf.length cl, .slice Ab B.length cb] 61))
  have SP7 := Aside0.mk (Kd.S_below SP6.out hal)
  have SR7 := Aside0.mk (Kd.R_below SR6.out hal)
  have SB7 := Aside0.mk (own_other SB6.out (grown_below hal) (by simp))
  have SQ7 := Aside0.mk (Kd.R_below SQ6.out hal)
  have SC7 := Aside0.mk (own_other SC6.out (grown_below hal) (by simp))
  have HB7 := Aside0.mk (below_step HB6.out hal)
  generalize w6.alloc (.cells #[.slice As ns cs, .slice Al lf.length cl, .slice Ab B.length cb] 61) = w7 at BW7 SP7 SR7 SB7 SQ7 SC7 HB7 ⊢
  generalize w6.heap.size = b7 at BW7 ⊢
  clear f0 f1 f2 f3 f4 f5 g0 g1 g2 g3 g4 g5 hal SP2 SP3 SP4 SP5 SP6 SR3 SR4 SR5 SR6 SB4 SB5 SB6 SQ5 SQ6 SC6
  have f0 : w7.cell? ⟨w0.heap.size, 0, none⟩ = some (.string a0) := (blk_cell (blk_below BX1.out HB7.out) 0).trans rfl
  have f1 : w7.cell? ⟨w0.heap.size, 1, none⟩ = some (.bool a1) := (blk_cell (blk_below BX1.out HB7.out) 1).trans rfl
  have f2 : w7.cell? ⟨w0.heap.size, 2, none⟩ = some (.int .i64 a2) := (blk_cell (blk_below BX1.out HB7.out) 2).trans rfl
  have f3 : w7.cell? ⟨w0.heap.size, 3, none⟩ = some (.int .i64 a3) := (blk_cell (blk_below BX1.out HB7.out) 3).trans rfl
  have f4 : w7.cell? ⟨w0.heap.size, 4, none⟩ = some (.slice A4 l4.length c4) := (blk_cell (blk_below BX1.out HB7.out) 4).trans rfl
  have f5 : w7.cell? ⟨w0.heap.size, 5, none⟩ = some (.slice A5 l5.length c5) := (blk_cell (blk_below BX1.out HB7.out) 5).trans rfl
  have f6 : w7.cell? ⟨b7, 2, none⟩ = some (.slice Ab B.length cb) := (blk_cell BW7.out 2).trans rfl
  have ePl : P.length = l5.length := Q9.out
  refine start_ (n := 29) (S := fun w' => w'.cell? ⟨w0.heap.size, 0, none⟩ = some (.string a0) ∧ w'.cell? ⟨w0.heap.size, 1, none⟩ = some (.bool a1) ∧ w'.cell? ⟨w0.heap.size, 2, none⟩ = some (.int .i64 a2) ∧ w'.cell? ⟨w0.heap.size, 3, none⟩ = some (.int .i64 a3) ∧ w'.cell? ⟨w0.heap.size, 4, none⟩ = some (.slice A4 l4.length c4) ∧ w'.cell? ⟨w0.heap.size, 5, none⟩ = some (.slice A5 l5.length c5) ∧ w'.cell? ⟨b7, 2, none⟩ = some (.slice Ab B.length cb)) (ds := []) #[false, false, false, false, false, false, false, false, false, false, false, false, false, false, false, false, false, false, false, false, false, false, false, false, false, false, false, false, false] (by kernel_rfl) rfl rfl ⟨f0, f1, f2, f3, f4, f5, f6⟩ (fun hHeld => ?_)
  refine with_tabW flow_lead6.tab6 flow_lead6.bits6 (fun HT_ HW_ => ?_)
  refine pure_ (i := 0) (N := some 24) (v := ?_) (a' := ?_) #[true, false, false, false, false, false, false, false, false, false, false, false, false, false, false, false, false, false, false, false, false, false, false, false, false, false, false, false, false] rfl rfl (any_of HT_.out (by kernel_rfl)) (fun _ _ _ h => h) (Or.inl ⟨by rfl, ?_⟩) ?_ ?_
  rotate_left
  · intro w'
    go_simp
    with_reducible rfl
  rotate_left
  · simp only [Act.put, List.setIfInBounds_toArray, List.set_cons_zero, List.set_cons_succ, i64_w, i32_w]
    rfl
  refine pure_ (i := 1) (N := some 25) (v := ?_) (a' := ?_) #[true, true, false, false, false, false, false, false, false, false, false, false, false, false, false, false, false, false, false, false, false, false, false, false, false, false, false, false, false] rfl rfl (any_of HT_.out (by kernel_rfl)) (fun _ _ _ h => h) (Or.inl ⟨by rfl, ?_⟩) ?_ ?_
  rotate_left
  · intro w'
    go_simp
    with_reducible rfl
  rotate_left
  · simp only [Act.put, List.setIfInBounds_toArray, List.set_cons_zero, List.set_cons_succ, i64_w, i32_w]
    rfl
  refine pure_ (i := 2) (N := some 26) (v := ?_) (a' := ?_) #[true, true, true, false, false, false, false, false, false, false, false, false, false, false, false, false, false, false, false, false, false, false, false, false, false, false, false, false, false] rfl rfl (any_of HT_.out (by kernel_rfl)) (fun _ _ _ h => h) (Or.inl ⟨by rfl, ?_⟩) ?_ ?_
  rotate_left
  · intro w'
    go_simp
    with_reducible rfl
  rotate_left
  · simp only [Act.put, List.setIfInBounds_toArray, List.set_cons_zero, List.set_cons_succ, i64_w, i32_w]
    rfl
  refine take_ (i := 3) (N := some 27) (v := ?_) (a' := ?_) #[true, true, true, true, false, false, false, false, false, false, false, false, false, false, false, false, false, false, false, false, false, false, false, false, false, false, false, false, false] rfl rfl (take_ofW HT_.out HW_.out (by kernel_rfl)) (fun _ _ _ h => h) (Or.inl ⟨by rfl, ?_⟩) hHeld ?_ ?_
  rotate_left
  · rintro w' ⟨s0, s1, s2, s3, s4, s5, s6⟩
    go_simp
    with_reducible rfl
  rotate_left
  · simp only [Act.put, List.setIfInBounds_toArray, List.set_cons_zero, List.set_cons_succ, i64_w, i32_w]
    rfl
  refine pure_ (i := 4) (N := some 28) (v := ?_) (a' := ?_) #[true, true, true, true, true, false, false, false, false, false, false, false, false, false, false, false, false, false, false, false, false, false, false, false, false, false, false, false, false] rfl rfl (any_of HT_.out (by kernel_rfl)) (fun _ _ _ h => h) (Or.inl ⟨by rfl, ?_⟩) ?_ ?_
  rotate_left
  · intro w'
    go_simp
    with_reducible rfl
  rotate_left
  · simp only [Act.put, List.setIfInBounds_toArray, List.set_cons_zero, List.set_cons_succ, i64_w, i32_w]
    rfl
  refine pure_ (i := 5) (N := some 29) (v := ?_) (a' := ?_) #[true, true, true, true, true, true, false, false, false, false, false, false, false, false, false, false, false, false, false, false, false, false, false, false, false, false, false, false, false] rfl rfl (any_of HT_.out (by kernel_rfl)) (fun _ _ _ h => h) (Or.inl ⟨by rfl, ?_⟩) ?_ ?_
  rotate_left
  · intro w'
    go_simp
    with_reducible rfl
  rotate_left
  · simp only [Act.put, List.setIfInBounds_toArray, List.set_cons_zero, List.set_cons_succ, i64_w, i32_w]
    rfl
  refine pure_ (i := 6) (N := some 30) (v := ?_) (a' := ?_) #[true, true, true, true, true, true, true, false, false, false, false, false, false, false, false, false, false, false, false, false, false, false, false, false, false, false, false, false, false] rfl rfl (any_of HT_.out (by kernel_rfl)) (fun _ _ _ h => h) (Or.inl ⟨by rfl, ?_⟩) ?_ ?_
  rotate_left
  · intro w'
    go_simp
    with_reducible rfl
  rotate_left
  · simp only [Act.put, List.setIfInBounds_toArray, List.set_cons_zero, List.set_cons_succ, i64_w, i32_w]
    rfl
  refine pure_ (i := 7) (N := some 31) (v := ?_) (a' := ?_) #[true, true, true, true, true, true, true, true, false, false, false, false, false, false, false, false, false, false, false, false, false, false, false, false, false, false, false, false, false] rfl rfl (any_of HT_.out (by kernel_rfl)) (fun _ _ _ h => h) (Or.inl ⟨by rfl, ?_⟩) ?_ ?_
  rotate_left
  · intro w'
    go_simp
    with_reducible rfl
  rotate_left
  · simp only [Act.put, List.setIfInBounds_toArray, List.set_cons_zero, List.set_cons_succ, i64_w, i32_w]
    rfl
  refine pure_ (i := 8) (N := some 32) (v := ?_) (a' := ?_) #[true, true, true, true, true, true, true, true, true, false, false, false, false, false, false, false, false, false, false, false, false, false, false, false, false, false, false, false, false] rfl rfl (any_of HT_.out (by kernel_rfl)) (fun _ _ _ h => h) (Or.inl ⟨by rfl, ?_⟩) ?_ ?_
  rotate_left
  · intro w'
    go_simp
    with_reducible rfl
  rotate_left
  · simp only [Act.put, List.setIfInBounds_toArray, List.set_cons_zero, List.set_cons_succ, i64_w, i32_w]
    rfl
  refine pure_ (i := 9) (N := some 33) (v := ?_) (a' := ?_) #[true, true, true, true, true, true, true, true, true, true, false, false, false, false, false, false, false, false, false, false, false, false, false, false, false, false, false, false, false] rfl rfl (any_of HT_.out (by kernel_rfl)) (fun _ _ _ h => h) (Or.inl ⟨by rfl, ?_⟩) ?_ ?_
  rotate_left
  · intro w'
    go_simp
    with_reducible rfl
  rotate_left
  · simp only [Act.put, List.setIfInBounds_toArray, List.set_cons_zero, List.set_cons_succ, i64_w, i32_w]
    rfl
  refine pure_ (i := 10) (N := some 34) (v := ?_) (a' := ?_) #[true, true, true, true, true, true, true, true, true, true, true, false, false, false, false, false, false, false, false, false, false, false, false, false, false, false, false, false, false] rfl rfl (any_of HT_.out (by kernel_rfl)) (fun _ _ _ h => h) (Or.inl ⟨by rfl, ?_⟩) ?_ ?_
  rotate_left
  · intro w'
    go_simp
    with_reducible rfl
  rotate_left
  · simp only [Act.put, List.setIfInBounds_toArray, List.set_cons_zero, List.set_cons_succ, i64_w, i32_w]
    rfl
  refine pure_ (i := 11) (N := some 35) (v := ?_) (a' := ?_) #[true, true, true, true, true, true, true, true, true, true, true, true, false, false, false, false, false, false, false, false, false, false, false, false, false, false, false, false, false] rfl rfl (any_of HT_.out (by kernel_rfl)) (fun _ _ _ h => h) (Or.inl ⟨by rfl, ?_⟩) ?_ ?_
  rotate_left
  · intro w'
    go_simp
    with_reducible rfl
  rotate_left
  · simp only [Act.put, List.setIfInBounds_toArray, List.set_cons_zero, List.set_cons_succ, i64_w, i32_w]
    rfl
  refine pure_ (i := 12) (N := some 36) (v := ?_) (a' := ?_) #[true, true, true, true, true, true, true, true, true, true, true, true, true, false, false, false, false, false, false, false, false, false, false, false, false, false, false, false, false] rfl rfl (any_of HT_.out (by kernel_rfl)) (fun _ _ _ h => h) (Or.inl ⟨by rfl, ?_⟩) ?_ ?_
  rotate_left
  · intro w'
    go_simp
    with_reducible rfl
  rotate_left
  · simp only [Act.put, List.setIfInBounds_toArray, List.set_cons_zero, List.set_cons_succ, i64_w, i32_w]
    rfl
  refine pure_ (i := 13) (N := some 37) (v := ?_) (a' := ?_) #[true, true, true, true, true, true, true, true, true, true, true, true, true, true, false, false, false, false, false, false, false, false, false, false, false, false, false, false, false] rfl rfl (any_of HT_.out (by kernel_rfl)) (fun _ _ _ h => h) (Or.inl ⟨by rfl, ?_⟩) ?_ ?_
  rotate_left
  · intro w'
    go_simp
    with_reducible rfl
  rotate_left
  · simp only [Act.put, List.setIfInBounds_toArray, List.set_cons_zero, List.set_cons_succ, i64_w, i32_w]
    rfl
  refine pure_ (i := 14) (N := some 38) (v := ?_) (a' := ?_) #[true, true, true, true, true, true, true, true, true, true, true, true, true, true, true, false, false, false, false, false, false, false, false, false, false, false, false, false, false] rfl rfl (any_of HT_.out (by kernel_rfl)) (fun _ _ _ h => h) (Or.inl ⟨by rfl, ?_⟩) ?_ ?_
  rotate_left
  · intro w'
    go_simp
    with_reducible rfl
  rotate_left
  · simp only [Act.put, List.setIfInBounds_toArray, List.set_cons_zero, List.set_cons_succ, i64_w, i32_w]
    rfl
  refine pure_ (i := 15) (N := some 39) (v := ?_) (a' := ?_) #[true, true, true, true, true, true, true, true, true, true, true, true, true, true, true, true, false, false, false, false, false, false, false, false, false, false, false, false, false] rfl rfl (any_of HT_.out (by kernel_rfl)) (fun _ _ _ h => h) (Or.inl ⟨by rfl, ?_⟩) ?_ ?_
  rotate_left
  · intro w'
    go_simp
    with_reducible rfl
  rotate_left
  · simp only [Act.put, List.setIfInBounds_toArray, List.set_cons_zero, List.set_cons_succ, i64_w, i32_w]
    rfl
  refine pure_ (i := 16) (N := some 40) (v := ?_) (a' := ?_) #[true, true, true, true, true, true, true, true, true, true, true, true, true, true, true, true, true, false, false, false, false, false, false, false, false, false, false, false, false] rfl rfl (any_of HT_.out (by kernel_rfl)) (fun _ _ _ h => h) (Or.inl ⟨by rfl, ?_⟩) ?_ ?_
  rotate_left
  · intro w'
    go_simp
    with_reducible rfl
  rotate_left
  · simp only [Act.put, List.setIfInBounds_toArray, List.set_cons_zero, List.set_cons_succ, i64_w, i32_w]
    rfl
  refine take_ (i := 17) (N := some 41) (v := ?_) (a' := ?_) #[true, true, true, true, true, true, true, true, true, true, true, true, true, true, true, true, true, true, false, false, false, false, false, false, false, false, false, false, false] rfl rfl (take_ofW HT_.out HW_.out (by kernel_rfl)) (fun _ _ _ h => h) (Or.inl ⟨by rfl, ?_⟩) hHeld ?_ ?_
  rotate_left
  · rintro w' ⟨s0, s1, s2, s3, s4, s5, s6⟩
    go_simp
    with_reducible rfl
  rotate_left
  · simp only [Act.put, List.setIfInBounds_toArray, List.set_cons_zero, List.set_cons_succ, i64_w, i32_w]
    rfl
  refine pure_ (i := 18) (N := some 42) (v := ?_) (a' := ?_) #[true, true, true, true, true, true, true, true, true, true, true, true, true, true, true, true, true, true, true, false, false, false, false, false, false, false, false, false, false] rfl rfl (any_of HT_.out (by kernel_rfl)) (fun _ _ _ h => h) (Or.inl ⟨by rfl, ?_⟩) ?_ ?_
  rotate_left
  · intro w'
    go_simp
    with_reducible rfl
  rotate_left
  · simp only [Act.put, List.setIfInBounds_toArray, List.set_cons_zero, List.set_cons_succ, i64_w, i32_w]
    rfl
  refine pure_ (i := 19) (N := some 43) (v := ?_) (a' := ?_) #[true, true, true, true, true, true, true, true, true, true, true, true, true, true, true, true, true, true, true, true, false, false, false, false, false, false, false, false, false] rfl rfl (any_of HT_.out (by kernel_rfl)) (fun _ _ _ h => h) (Or.inl ⟨by rfl, ?_⟩) ?_ ?_
  rotate_left
  · intro w'
    go_simp
    with_reducible rfl
  rotate_left
  · simp only [Act.put, List.setIfInBounds_toArray, List.set_cons_zero, List.set_cons_succ, i64_w, i32_w]
    rfl
  refine pure_ (i := 20) (N := some 44) (v := ?_) (a' := ?_) #[true, true, true, true, true, true, true, true, true, true, true, true, true, true, true, true, true, true, true, true, true, false, false, false, false, false, false, false, false] rfl rfl (any_of HT_.out (by kernel_rfl)) (fun _ _ _ h => h) (Or.inl ⟨by rfl, ?_⟩) ?_ ?_
  rotate_left
  · intro w'
    go_simp
    with_reducible rfl
  rotate_left
  · simp only [Act.put, List.setIfInBounds_toArray, List.set_cons_zero, List.set_cons_succ, i64_w, i32_w]
    rfl
  refine pure_ (i := 21) (N := some 45) (v := ?_) (a' := ?_) #[true, true, true, true, true, true, true, true, true, true, true, true, true, true, true, true, true, true, true, true, true, true, false, false, false, false, false, false, false] rfl rfl (any_of HT_.out (by kernel_rfl)) (fun _ _ _ h => h) (Or.inl ⟨by rfl, ?_⟩) ?_ ?_
  rotate_left
  · intro w'
    go_simp
    with_reducible rfl
  rotate_left
  · simp only [Act.put, List.setIfInBounds_toArray, List.set_cons_zero, List.set_cons_succ, i64_w, i32_w]
    rfl
  refine take_ (i := 22) (N := some 46) (v := ?_) (a' := ?_) #[true, true, true, true, true, true, true, true, true, true, true, true, true, true, true, true, true, true, true, true, true, true, true, false, false, false, false, false, false] rfl rfl (take_ofW HT_.out HW_.out (by kernel_rfl)) (fun _ _ _ h => h) (Or.inl ⟨by rfl, ?_⟩) hHeld ?_ ?_
  rotate_left
  · rintro w' ⟨s0, s1, s2, s3, s4, s5, s6⟩
    go_simp
    with_reducible rfl
  rotate_left
  · simp only [Act.put, List.setIfInBounds_toArray, List.set_cons_zero, List.set_cons_succ, i64_w, i32_w]
    rfl
  refine take_ (i := 24) (N := some 48) (v := ?_) (a' := ?_) #[true, true, true, true, true, true, true, true, true, true, true, true, true, true, true, true, true, true, true, true, true, true, true, false, true, false, false, false, false] rfl rfl (take_ofW HT_.out HW_.out (by kernel_rfl)) (fun _ _ _ h => h) (Or.inl ⟨by rfl, ?_⟩) hHeld ?_ ?_
  rotate_left
  · rintro w' ⟨s0, s1, s2, s3, s4, s5, s6⟩
    go_simp
    with_reducible rfl
  rotate_left
  · simp only [Act.put, List.setIfInBounds_toArray, List.set_cons_zero, List.set_cons_succ, i64_w, i32_w]
    rfl
  refine one_ (i := 23) (N := some 47) #[true, true, true, true, true, true, true, true, true, true, true, true, true, true, true, true, true, true, true, true, true, true, true, true, true, false, false, false, false] rfl rfl (one_of HT_.out (by kernel_rfl)) (by decide) (fun K hK => ?_)
  refine goes_ Try.func20 (by kernel_rfl) rfl #[.agg #[.string a0, .bool a1, .int .i64 a2, .int .i64 a3, .slice A4 l4.length c4, .slice A5 l5.length c5]] (by rfl) rfl rfl (by simp only [List.map_toArray, List.map_cons, List.map_nil]; rfl) ?_
  with_reducible refine (flow_Order.calls k a0 a1 a2 a3 A4 c4 l4 A5 c5 l5 Od _ (Kd.C_below HR4.out (below_step HB1.out (below_step HB7.out (below_drew (Below.refl _ _))))) HC4.out (Kd.C_below HR5.out (below_step HB1.out (below_step HB7.out (below_drew (Below.refl _ _))))) HC5.out Q6.out).mono ?_
  rintro e w8 ⟨vO, rfl, hR, hb⟩
  refine ⟨_, rfl, ?_⟩
  obtain ⟨AO, cO, ev⟩ := Kd.R_slice hR
  subst ev
  have SO8 := Aside0.mk hR
  have HB8 := Aside0.mk (below_step (below_drew (Below.refl w7.heap.size w7)) hb)
  obtain ⟨z0, z1, z2, z3, z4, z5, z6⟩ := hHeld
  refine hK.out _ _ ⟨(hb.cell (World.block_lt_of_cell? _ _ z0)).trans z0, (hb.cell (World.block_lt_of_cell? _ _ z1)).trans z1, (hb.cell (World.block_lt_of_cell? _ _ z2)).trans z2, (hb.cell (World.block_lt_of_cell? _ _ z3)).trans z3, (hb.cell (World.block_lt_of_cell? _ _ z4)).trans z4, (hb.cell (World.block_lt_of_cell? _ _ z5)).trans z5, (hb.cell (World.block_lt_of_cell? _ _ z6)).trans z6⟩ (fun hHeld => ?_)
  clear hK K
  refine norm_ (a' := ?_) ?_ ?_
  rotate_left
  · show Act.put _ (some 47) _ = _
    simp only [Act.put, List.setIfInBounds_toArray, List.set_cons_zero, List.set_cons_succ, i64_w, i32_w]
    rfl
  refine one_ (i := 25) (N := some 49) #[true, true, true, true, true, true, true, true, true, true, true, true, true, true, true, true, true, true, true, true, true, true, true, true, true, true, false, false, false] rfl rfl (one_of HT_.out (by kernel_rfl)) (by decide) (fun K hK => ?_)
  refine goes_ Try.func29 (by kernel_rfl) rfl #[.agg #[.string a0, .bool a1, .int .i64 a2, .int .i64 a3, .slice A4 l4.length c4, .slice A5 l5.length c5]] (by rfl) rfl rfl (by simp only [List.map_toArray, List.map_cons, List.map_nil]; rfl) ?_
  with_reducible refine (ref_Order.calls k a0 a1 a2 a3 A4 c4 l4 A5 c5 l5 Od _ (Kd.C_below HR4.out (below_step HB1.out (below_step HB7.out HB8.out))) HC4.out (Kd.C_below HR5.out (below_step HB1.out (below_step HB7.out HB8.out))) HC5.out Q7.out).mono ?_
  rintro e w9 ⟨vO2, rfl, hR, hb⟩
  refine ⟨_, rfl, ?_⟩
  obtain ⟨AO2, cO2, ev⟩ := Kd.R_slice hR
  subst ev
  have SO9 := Aside0.mk (Kd.R_below SO8.out hb)
  have SX9 := Aside0.mk hR
  have HB9 := Aside0.mk (below_step HB8.out hb)
  obtain ⟨z0, z1, z2, z3, z4, z5, z6⟩ := hHeld
  refine hK.out _ _ ⟨(hb.cell (World.block_lt_of_cell? _ _ z0)).trans z0, (hb.cell (World.block_lt_of_cell? _ _ z1)).trans z1, (hb.cell (World.block_lt_of_cell? _ _ z2)).trans z2, (hb.cell (World.block_lt_of_cell? _ _ z3)).trans z3, (hb.cell (World.block_lt_of_cell? _ _ z4)).trans z4, (hb.cell (World.block_lt_of_cell? _ _ z5)).trans z5, (hb.cell (World.block_lt_of_cell? _ _ z6)).trans z6⟩ (fun hHeld => ?_)
  clear hK K
  refine norm_ (a' := ?_) ?_ ?_
  rotate_left
  · show Act.put _ (some 49) _ = _
    simp only [Act.put, List.setIfInBounds_toArray, List.set_cons_zero, List.set_cons_succ, i64_w, i32_w]
    rfl
  refine one_ (i := 26) (N := some 50) #[true, true, true, true, true, true, true, true, true, true, true, true, true, true, true, true, true, true, true, true, true, true, true, true, true, true, true, false, false] rfl rfl (one_of HT_.out (by kernel_rfl)) (by decide) (fun K hK => ?_)
  refine goes_ Try.func28 (by kernel_rfl) rfl #[.slice AO Od.length cO, .slice AO2 Od.length cO2] (by rfl) rfl rfl (by simp only [List.map_toArray, List.map_cons, List.map_nil]; rfl) ?_
  with_reducible refine (rushlightlaw16_same.calls k AO cO Od AO2 cO2 Od true _ (Kd.R_reads' SO9.out).2.2 (Kd.R_reads' SO9.out).2.1 (Kd.R_reads' SX9.out).2.2 (Kd.R_reads' SX9.out).2.1 Q8.out).mono ?_
  rintro e w10 ⟨rfl, hd⟩
  refine ⟨_, rfl, ?_⟩
  have hb := hd.below
  have HB10 := Aside0.mk (below_step HB9.out hb)
  obtain ⟨z0, z1, z2, z3, z4, z5, z6⟩ := hHeld
  refine hK.out _ _ ⟨(hb.cell (World.block_lt_of_cell? _ _ z0)).trans z0, (hb.cell (World.block_lt_of_cell? _ _ z1)).trans z1, (hb.cell (World.block_lt_of_cell? _ _ z2)).trans z2, (hb.cell (World.block_lt_of_cell? _ _ z3)).trans z3, (hb.cell (World.block_lt_of_cell? _ _ z4)).trans z4, (hb.cell (World.block_lt_of_cell? _ _ z5)).trans z5, (hb.cell (World.block_lt_of_cell? _ _ z6)).trans z6⟩ (fun hHeld => ?_)
  clear hK K
  refine norm_ (a' := ?_) ?_ ?_
  rotate_left
  · show Act.put _ (some 50) _ = _
    simp only [Act.put, List.setIfInBounds_toArray, List.set_cons_zero, List.set_cons_succ, i64_w, i32_w]
    rfl
  refine pure_ (i := 27) (N := some 51) (v := ?_) (a' := ?_) #[true, true, true, true, true, true, true, true, true, true, true, true, true, true, true, true, true, true, true, true, true, true, true, true, true, true, true, true, false] rfl rfl (any_of HT_.out (by kernel_rfl)) (fun _ _ _ h => h) (Or.inl ⟨by rfl, ?_⟩) ?_ ?_
  rotate_left
  · intro w'
    go_simp
    with_reducible rfl
  rotate_left
  · simp only [Act.put, List.setIfInBounds_toArray, List.set_cons_zero, List.set_cons_succ, i64_w, i32_w]
    rfl
  refine pure_ (i := 28) (N := some 52) (v := ?_) (a' := ?_) #[true, true, true, true, true, true, true, true, true, true, true, true, true, true, true, true, true, true, true, true, true, true, true, true, true, true, true, true, true] rfl rfl (any_of HT_.out (by kernel_rfl)) (fun _ _ _ h => h) (Or.inl ⟨by rfl, ?_⟩) ?_ ?_
  rotate_left
  · intro w'
    go_simp
    with_reducible rfl
  rotate_left
  · simp only [Act.put, List.setIfInBounds_toArray, List.set_cons_zero, List.set_cons_succ, i64_w, i32_w]
    rfl
  refine done_ (done_of HT_.out (by kernel_rfl)) ?_
  clear f0 f1 f2 f3 f4 f5 f6 hHeld
  go_upto_region 9 with (fail)
  clear ePl
  go_loopg [8] l5.length (fun kq v8 w' => ∃ i : Nat, v8 = .int .i64 i ∧ Aside0 (kq + i = l5.length) ∧ i ≤ l5.length ∧ Aside0 (Below w7.heap.size w7 w'))
  case atStart => exact ⟨0, rfl, ⟨rfl⟩, Nat.zero_le _, HB10⟩
  case round =>
    clear HB10
    obtain ⟨i, rfl, HK, hi, HBr⟩ := hrel
    by_cases hil : i < l5.length
    · have p1 : (0 : Int) ≤ (i : Int) := Int.natCast_nonneg _
      have p2 : (i : Int) < (l5.length : Int) := by omega
      have p3 : (i : Int) < (P.length : Int) := by have := Q9.out; omega
      have p4 : (i : Int) < (R.length : Int) := by have := Q10.out; omega
      obtain ⟨gR, kR, ev, _⟩ := Kd.R_form SR7.out (by have := Q10.out; omega)
      injection ev with ev _ ec
      subst ev; subst ec
      obtain ⟨gQ, kQ, ev, _⟩ := Kd.R_form SQ7.out (by have := Q10.out; omega)
      injection ev with ev _ ec
      subst ev; subst ec
      obtain ⟨adP, Ai, ci, ev, z, hci, hCi⟩ := at_L4 (Kd.S_reads' SP7.out).2.2 (i : Int) p1 p3
      subst ev
      have g0 : wr.cell? ⟨gR, i, none⟩ = some (.bool (rdOf false R (i : Int))) := by
        have := (Kd.R_celln (enc := Value.bool) (h1 := fun _ => rfl) false SR7.out (i : Int) p1 p4).1
        rw [Int.toNat_natCast] at this
        exact (HBr.out.cell (World.block_lt_of_cell? _ _ this)).trans this
      have g1 : wr.cell? ⟨gQ, i, none⟩ = some (.bool (rdOf false R (i : Int))) := by
        have := (Kd.R_celln (enc := Value.bool) (h1 := fun _ => rfl) false SQ7.out (i : Int) p1 p4).1
        rw [Int.toNat_natCast] at this
        exact (HBr.out.cell (World.block_lt_of_cell? _ _ this)).trans this
      rw [Int.toNat_natCast] at z
      have g2 := (HBr.out.cell (World.block_lt_of_cell? _ _ z)).trans z
      have HCI := Aside0.mk (Kd.C_below hCi HBr.out)
      have HLI := Aside0.mk hci
      have QP := Aside0.mk (Q12.out i hil)
      have QS := Aside0.mk (Q13.out i hil)
      clear z hci hCi
      generalize rd_L4 P (i : Int) = pi at g2 HCI HLI QP QS
      generalize rdOf false R (i : Int) = rb at g0 g1
      have h0 : wr.cell? ⟨w0.heap.size, 0, none⟩ = some (.string a0) := (blk_cell (blk_below BX1.out (below_step HB7.out HBr.out)) 0).trans rfl
      have h1 : wr.cell? ⟨w0.heap.size, 1, none⟩ = some (.bool a1) := (blk_cell (blk_below BX1.out (below_step HB7.out HBr.out)) 1).trans rfl
      have h2 : wr.cell? ⟨w0.heap.size, 2, none⟩ = some (.int .i64 a2) := (blk_cell (blk_below BX1.out (below_step HB7.out HBr.out)) 2).trans rfl
      have h3 : wr.cell? ⟨w0.heap.size, 3, none⟩ = some (.int .i64 a3) := (blk_cell (blk_below BX1.out (below_step HB7.out HBr.out)) 3).trans rfl
      have h4 : wr.cell? ⟨w0.heap.size, 4, none⟩ = some (.slice A4 l4.length c4) := (blk_cell (blk_below BX1.out (below_step HB7.out HBr.out)) 4).trans rfl
      have h5 : wr.cell? ⟨w0.heap.size, 5, none⟩ = some (.slice A5 l5.length c5) := (blk_cell (blk_below BX1.out (below_step HB7.out HBr.out)) 5).trans rfl
      go_upto_region 11 with (fail)
      refine start_ (n := 20) (S := fun w' => w'.cell? ⟨gR, i, none⟩ = some (.bool rb) ∧ w'.cell? ⟨gQ, i, none⟩ = some (.bool rb) ∧ w'.cell? (adP.add i) = some (.slice Ai pi.length ci) ∧ w'.cell? ⟨w0.heap.size, 0, none⟩ = some (.string a0) ∧ w'.cell? ⟨w0.heap.size, 1, none⟩ = some (.bool a1) ∧ w'.cell? ⟨w0.heap.size, 2, none⟩ = some (.int .i64 a2) ∧ w'.cell? ⟨w0.heap.size, 3, none⟩ = some (.int .i64 a3) ∧ w'.cell? ⟨w0.heap.size, 4, none⟩ = some (.slice A4 l4.length c4) ∧ w'.cell? ⟨w0.heap.size, 5, none⟩ = some (.slice A5 l5.length c5)) (ds := []) #[false, false, false, false, false, false, false, false, false, false, false, false, false, false, false, false, false, false, false, false] (by kernel_rfl) rfl rfl ⟨g0, g1, g2, h0, h1, h2, h3, h4, h5⟩ (fun hHeld => ?_)
      refine with_tabW flow_lead11.tab11 flow_lead11.bits11 (fun HT_ HW_ => ?_)
      refine pure_ (i := 0) (N := some 59) (v := ?_) (a' := ?_) #[true, false, false, false, false, false, false, false, false, false, false, false, false, false, false, false, false, false, false, false] rfl rfl (any_of HT_.out (by kernel_rfl)) (fun _ _ _ h => h) (Or.inl ⟨by rfl, ?_⟩) ?_ ?_
      rotate_left
      · intro w'
        go_simp
        with_reducible rfl
      rotate_left
      · simp only [Act.put, List.setIfInBounds_toArray, List.set_cons_zero, List.set_cons_succ, i64_w, i32_w]
        rfl
      refine pure_ (i := 1) (N := some 60) (v := ?_) (a' := ?_) #[true, true, false, false, false, false, false, false, false, false, false, false, false, false, false, false, false, false, false, false] rfl rfl (any_of HT_.out (by kernel_rfl)) (fun _ _ _ h => h) (Or.inl ⟨by rfl, ?_⟩) ?_ ?_
      rotate_left
      · intro w'
        go_simp
        with_reducible rfl
      rotate_left
      · simp only [Act.put, List.setIfInBounds_toArray, List.set_cons_zero, List.set_cons_succ, i64_w, i32_w]
        rfl
      refine pure_ (i := 2) (N := some 61) (v := ?_) (a' := ?_) #[true, true, true, false, false, false, false, false, false, false, false, false, false, false, false, false, false, false, false, false] rfl rfl (any_of HT_.out (by kernel_rfl)) (fun _ _ _ h => h) (Or.inl ⟨by rfl, ?_⟩) ?_ ?_
      rotate_left
      · intro w'
        go_simp
        with_reducible rfl
      rotate_left
      · simp only [Act.put, List.setIfInBounds_toArray, List.set_cons_zero, List.set_cons_succ, i64_w, i32_w]
        rfl
      refine pure_ (i := 4) (N := some 63) (v := ?_) (a' := ?_) #[true, true, true, false, true, false, false, false, false, false, false, false, false, false, false, false, false, false, false, false] rfl rfl (any_of HT_.out (by kernel_rfl)) (fun _ _ _ h => h) (Or.inl ⟨by rfl, ?_⟩) ?_ ?_
      rotate_left
      · intro w'
        go_simp
        with_reducible rfl
      rotate_left
      · simp only [Act.put, List.setIfInBounds_toArray, List.set_cons_zero, List.set_cons_succ, i64_w, i32_w]
        rfl
      refine pure_ (i := 5) (N := some 64) (v := ?_) (a' := ?_) #[true, true, true, false, true, true, false, false, false, false, false, false, false, false, false, false, false, false, false, false] rfl rfl (any_of HT_.out (by kernel_rfl)) (fun _ _ _ h => h) (Or.inl ⟨by rfl, ?_⟩) ?_ ?_
      rotate_left
      · intro w'
        go_simp
        with_reducible rfl
      rotate_left
      · simp only [Act.put, List.setIfInBounds_toArray, List.set_cons_zero, List.set_cons_succ, i64_w, i32_w]
        rfl
      refine pure_ (i := 6) (N := some 65) (v := ?_) (a' := ?_) #[true, true, true, false, true, true, true, false, false, false, false, false, false, false, false, false, false, false, false, false] rfl rfl (any_of HT_.out (by kernel_rfl)) (fun _ _ _ h => h) (Or.inl ⟨by rfl, ?_⟩) ?_ ?_
      rotate_left
      · intro w'
        go_simp
        with_reducible rfl
      rotate_left
      · simp only [Act.put, List.setIfInBounds_toArray, List.set_cons_zero, List.set_cons_succ, i64_w, i32_w]
        rfl
      refine take_ (i := 3) (N := some 62) (v := ?_) (a' := ?_) #[true, true, true, true, true, true, true, false, false, false, false, false, false, false, false, false, false, false, false, false] rfl rfl (take_ofW HT_.out HW_.out (by kernel_rfl)) (fun _ _ _ h => h) (Or.inl ⟨by rfl, ?_⟩) hHeld ?_ ?_
      rotate_left
      · rintro w' ⟨s0, s1, s2, s3, s4, s5, s6, s7, s8⟩
        go_simp
        with_reducible rfl
      rotate_left
      · simp only [Act.put, List.setIfInBounds_toArray, List.set_cons_zero, List.set_cons_succ, i64_w, i32_w]
        rfl
      refine take_ (i := 7) (N := some 66) (v := ?_) (a' := ?_) #[true, true, true, true, true, true, true, true, false, false, false, false, false, false, false, false, false, false, false, false] rfl rfl (take_ofW HT_.out HW_.out (by kernel_rfl)) (fun _ _ _ h => h) (Or.inl ⟨by rfl, ?_⟩) hHeld ?_ ?_
      rotate_left
      · rintro w' ⟨s0, s1, s2, s3, s4, s5, s6, s7, s8⟩
        go_simp
        with_reducible rfl
      rotate_left
      · simp only [Act.put, List.setIfInBounds_toArray, List.set_cons_zero, List.set_cons_succ, i64_w, i32_w]
        rfl
      refine pure_ (i := 8) (N := some 67) (v := ?_) (a' := ?_) #[true, true, true, true, true, true, true, true, true, false, false, false, false, false, false, false, false, false, false, false] rfl rfl (any_of HT_.out (by kernel_rfl)) (fun _ _ _ h => h) (Or.inl ⟨by rfl, ?_⟩) ?_ ?_
      rotate_left
      · intro w'
        go_simp
        with_reducible rfl
      rotate_left
      · simp only [Act.put, List.setIfInBounds_toArray, List.set_cons_zero, List.set_cons_succ, i64_w, i32_w]
        rfl
      refine pure_ (i := 9) (N := some 68) (v := ?_) (a' := ?_) #[true, true, true, true, true, true, true, true, true, true, false, false, false, false, false, false, false, false, false, false] rfl rfl (any_of HT_.out (by kernel_rfl)) (fun _ _ _ h => h) (Or.inl ⟨by rfl, ?_⟩) ?_ ?_
      rotate_left
      · intro w'
        go_simp
        with_reducible rfl
      rotate_left
      · simp only [Act.put, List.setIfInBounds_toArray, List.set_cons_zero, List.set_cons_succ, i64_w, i32_w]
        rfl
      refine pure_ (i := 10) (N := some 69) (v := ?_) (a' := ?_) #[true, true, true, true, true, true, true, true, true, true, true, false, false, false, false, false, false, false, false, false] rfl rfl (any_of HT_.out (by kernel_rfl)) (fun _ _ _ h => h) (Or.inl ⟨by rfl, ?_⟩) ?_ ?_
      rotate_left
      · intro w'
        go_simp
        with_reducible rfl
      rotate_left
      · simp only [Act.put, List.setIfInBounds_toArray, List.set_cons_zero, List.set_cons_succ, i64_w, i32_w]
        rfl
      refine pure_ (i := 11) (N := some 70) (v := ?_) (a' := ?_) #[true, true, true, true, true, true, true, true, true, true, true, true, false, false, false, false, false, false, false, false] rfl rfl (any_of HT_.out (by kernel_rfl)) (fun _ _ _ h => h) (Or.inl ⟨by rfl, ?_⟩) ?_ ?_
      rotate_left
      · intro w'
        go_simp
        with_reducible rfl
      rotate_left
      · simp only [Act.put, List.setIfInBounds_toArray, List.set_cons_zero, List.set_cons_succ, i64_w, i32_w]
        rfl
      refine pure_ (i := 12) (N := some 71) (v := ?_) (a' := ?_) #[true, true, true, true, true, true, true, true, true, true, true, true, true, false, false, false, false, false, false, false] rfl rfl (any_of HT_.out (by kernel_rfl)) (fun _ _ _ h => h) (Or.inl ⟨by rfl, ?_⟩) ?_ ?_
      rotate_left
      · intro w'
        go_simp
        with_reducible rfl
      rotate_left
      · simp only [Act.put, List.setIfInBounds_toArray, List.set_cons_zero, List.set_cons_succ, i64_w, i32_w]
        rfl
      refine pure_ (i := 15) (N := some 74) (v := ?_) (a' := ?_) #[true, true, true, true, true, true, true, true, true, true, true, true, true, false, false, true, false, false, false, false] rfl rfl (any_of HT_.out (by kernel_rfl)) (fun _ _ _ h => h) (Or.inl ⟨by rfl, ?_⟩) ?_ ?_
      rotate_left
      · intro w'
        go_simp
        with_reducible rfl
      rotate_left
      · simp only [Act.put, List.setIfInBounds_toArray, List.set_cons_zero, List.set_cons_succ, i64_w, i32_w]
        rfl
      refine take_ (i := 13) (N := some 72) (v := ?_) (a' := ?_) #[true, true, true, true, true, true, true, true, true, true, true, true, true, true, false, true, false, false, false, false] rfl rfl (take_ofW HT_.out HW_.out (by kernel_rfl)) (fun _ _ _ h => h) (Or.inl ⟨by rfl, ?_⟩) hHeld ?_ ?_
      rotate_left
      · rintro w' ⟨s0, s1, s2, s3, s4, s5, s6, s7, s8⟩
        go_simp
        with_reducible rfl
      rotate_left
      · simp only [Act.put, List.setIfInBounds_toArray, List.set_cons_zero, List.set_cons_succ, i64_w, i32_w]
        rfl
      refine take_ (i := 14) (N := some 73) (v := ?_) (a' := ?_) #[true, true, true, true, true, true, true, true, true, true, true, true, true, true, true, true, false, false, false, false] rfl rfl (take_ofW HT_.out HW_.out (by kernel_rfl)) (fun _ _ _ h => h) (Or.inl ⟨by rfl, ?_⟩) hHeld ?_ ?_
      rotate_left
      · rintro w' ⟨s0, s1, s2, s3, s4, s5, s6, s7, s8⟩
        go_simp
        with_reducible rfl
      rotate_left
      · simp only [Act.put, List.setIfInBounds_toArray, List.set_cons_zero, List.set_cons_succ, i64_w, i32_w]
        rfl
      refine one_ (i := 16) (N := some 75) #[true, true, true, true, true, true, true, true, true, true, true, true, true, true, true, true, true, false, false, false] rfl rfl (one_of HT_.out (by kernel_rfl)) (by decide) (fun K hK => ?_)
      refine goes_ Try.func30 (by kernel_rfl) rfl #[.agg #[.string a0, .bool a1, .int .i64 a2, .int .i64 a3, .slice A4 l4.length c4, .slice A5 l5.length c5], .int .i64 i] (by rfl) rfl rfl (by simp only [List.map_toArray, List.map_cons, List.map_nil]; rfl) ?_
      with_reducible refine (rushlightref16_Preds.calls k a0 a1 a2 a3 A4 c4 l4 A5 c5 l5 (i : Int) pi _ (Kd.C_below HR4.out (below_step HB1.out (below_step HB7.out (below_step HBr.out (below_drew (Below.refl _ _)))))) HC4.out (Kd.C_below HR5.out (below_step HB1.out (below_step HB7.out (below_step HBr.out (below_drew (Below.refl _ _)))))) HC5.out QP.out).mono ?_
      rintro e w19 ⟨vp, rfl, hR, hb⟩
      refine ⟨_, rfl, ?_⟩
      obtain ⟨Ap, cp, ev⟩ := Kd.R_slice hR
      subst ev
      have SX19 := Aside0.mk hR
      have HB19 := Aside0.mk (below_step (below_drew (Below.refl wr.heap.size wr)) hb)
      obtain ⟨z0, z1, z2, z3, z4, z5, z6, z7, z8⟩ := hHeld
      refine hK.out _ _ ⟨(hb.cell (World.block_lt_of_cell? _ _ z0)).trans z0, (hb.cell (World.block_lt_of_cell? _ _ z1)).trans z1, (hb.cell (World.block_lt_of_cell? _ _ z2)).trans z2, (hb.cell (World.block_lt_of_cell? _ _ z3)).trans z3, (hb.cell (World.block_lt_of_cell? _ _ z4)).trans z4, (hb.cell (World.block_lt_of_cell? _ _ z5)).trans z5, (hb.cell (World.block_lt_of_cell? _ _ z6)).trans z6, (hb.cell (World.block_lt_of_cell? _ _ z7)).trans z7, (hb.cell (World.block_lt_of_cell? _ _ z8)).trans z8⟩ (fun hHeld => ?_)
      clear hK K
      refine norm_ (a' := ?_) ?_ ?_
      rotate_left
      · show Act.put _ (some 75) _ = _
        simp only [Act.put, List.setIfInBounds_toArray, List.set_cons_zero, List.set_cons_succ, i64_w, i32_w]
        rfl
      refine one_ (i := 17) (N := some 76) #[true, true, true, true, true, true, true, true, true, true, true, true, true, true, true, true, true, true, false, false] rfl rfl (one_of HT_.out (by kernel_rfl)) (by decide) (fun K hK => ?_)
      refine goes_ Try.func28 (by kernel_rfl) rfl #[.slice Ai pi.length ci, .slice Ap pi.length cp] (by rfl) rfl rfl (by simp only [List.map_toArray, List.map_cons, List.map_nil]; rfl) ?_
      with_reducible refine (rushlightlaw16_same.calls k Ai ci pi Ap cp pi true _ (Kd.C_below HCI.out HB19.out) HLI.out (Kd.R_reads' SX19.out).2.2 (Kd.R_reads' SX19.out).2.1 QS.out).mono ?_
      rintro e w20 ⟨rfl, hd⟩
      refine ⟨_, rfl, ?_⟩
      have hb := hd.below
      have HB20 := Aside0.mk (below_step HB19.out hb)
      obtain ⟨z0, z1, z2, z3, z4, z5, z6, z7, z8⟩ := hHeld
      refine hK.out _ _ ⟨(hb.cell (World.block_lt_of_cell? _ _ z0)).trans z0, (hb.cell (World.block_lt_of_cell? _ _ z1)).trans z1, (hb.cell (World.block_lt_of_cell? _ _ z2)).trans z2, (hb.cell (World.block_lt_of_cell? _ _ z3)).trans z3, (hb.cell (World.block_lt_of_cell? _ _ z4)).trans z4, (hb.cell (World.block_lt_of_cell? _ _ z5)).trans z5, (hb.cell (World.block_lt_of_cell? _ _ z6)).trans z6, (hb.cell (World.block_lt_of_cell? _ _ z7)).trans z7, (hb.cell (World.block_lt_of_cell? _ _ z8)).trans z8⟩ (fun hHeld => ?_)
      clear hK K
      refine norm_ (a' := ?_) ?_ ?_
      rotate_left
      · show Act.put _ (some 76) _ = _
        simp only [Act.put, List.setIfInBounds_toArray, List.set_cons_zero, List.set_cons_succ, i64_w, i32_w]
        rfl
      refine pure_ (i := 18) (N := some 77) (v := ?_) (a' := ?_) #[true, true, true, true, true, true, true, true, true, true, true, true, true, true, true, true, true, true, true, false] rfl rfl (any_of HT_.out (by kernel_rfl)) (fun _ _ _ h => h) (Or.inl ⟨by rfl, ?_⟩) ?_ ?_
      rotate_left
      · intro w'
        go_simp
        with_reducible rfl
      rotate_left
      · simp only [Act.put, List.setIfInBounds_toArray, List.set_cons_zero, List.set_cons_succ, i64_w, i32_w]
        rfl
      refine pure_ (i := 19) (N := some 78) (v := ?_) (a' := ?_) #[true, true, true, true, true, true, true, true, true, true, true, true, true, true, true, true, true, true, true, true] rfl rfl (any_of HT_.out (by kernel_rfl)) (fun _ _ _ h => h) (Or.inl ⟨by rfl, ?_⟩) ?_ ?_
      rotate_left
      · intro w'
        go_simp
        with_reducible rfl
      rotate_left
      · simp only [Act.put, List.setIfInBounds_toArray, List.set_cons_zero, List.set_cons_succ, i64_w, i32_w]
        rfl
      refine done_ (done_of HT_.out (by kernel_rfl)) ?_
      go_wp2
      go_roundg (gk - 1)
      case measure => have := HK.out; omega
      case rel => exact ⟨i + 1, by go_num, ⟨by have := HK.out; omega⟩, by omega, ⟨below_step HBr.out HB20.out⟩⟩
    · obtain rfl : i = l5.length := by omega
      have p4 : ¬ (l5.length : Int) < (R.length : Int) := by have := Q10.out; omega
      have p5 : decide ((l5.length : Int) < (R.length : Int)) = false := decide_eq_false p4
      go_upto_region 14 with (fail)
      clear p4 p5
      go_loopg [9] B.length (fun kq v9 w' => ∃ i : Nat, v9 = .int .i64 i ∧ Aside0 (kq + i = B.length) ∧ i ≤ B.length ∧ Aside0 (Below w7.heap.size w7 w'))
      case atStart => exact ⟨0, rfl, ⟨rfl⟩, Nat.zero_le _, HBr⟩
      case round =>
        clear HBr
        obtain ⟨i, rfl, HK2, hi, HBr⟩ := hrel
        by_cases hib : i < B.length
        · have p1 : (0 : Int) ≤ (i : Int) := Int.natCast_nonneg _
          have p2 : (i : Int) < (B.length : Int) := by omega
          obtain ⟨gB, kB, ev⟩ := own_shape SB7.out (by omega)
          injection ev with ev en ec; clear en
          subst ev; subst ec
          obtain ⟨gC, kC, ev⟩ := own_shape SC7.out (by omega)
          injection ev with ev en ec; clear en
          subst ev; subst ec
          have y := lead_back SB7.out hib
          have z := lead_back SC7.out hib
          have g0 := (HBr.out.cell (World.block_lt_of_cell? _ _ y.1)).trans y.1
          have g1 := (HBr.out.cell (World.block_lt_of_cell? _ _ y.2)).trans y.2
          have g2 := (HBr.out.cell (World.block_lt_of_cell? _ _ z.1)).trans z.1
          have g3 := (HBr.out.cell (World.block_lt_of_cell? _ _ z.2)).trans z.2
          have g4 : wr.cell? ⟨b7, 2, none⟩ = some (.slice (some ⟨gC, 0, none⟩) B.length cb) := (blk_cell (blk_below BW7.out HBr.out) 2).trans rfl
          have hq : ∀ w' : World, (Op.equalIn 10000 52 (.agg #[.int .i64 B[i].1, .int .i64 B[i].2]) (.agg #[.int .i64 B[i].1, .int .i64 B[i].2])).run Try.prog w' = .ok true w' := fun w' => by rw [flow_eq52]; simp
          generalize B[i].1 = xa at *
          generalize B[i].2 = xb at *
          clear y z
          go_upto_region 16 with (fail)
          refine start_ (n := 10) (S := fun w' => w'.cell? ⟨gB, i * 2, none⟩ = some (.int .i64 xa) ∧ w'.cell? ⟨gB, i * 2 + 1, none⟩ = some (.int .i64 xb) ∧ w'.cell? ⟨gC, i * 2, none⟩ = some (.int .i64 xa) ∧ w'.cell? ⟨gC, i * 2 + 1, none⟩ = some (.int .i64 xb) ∧ w'.cell? ⟨b7, 2, none⟩ = some (.slice (some ⟨gC, 0, none⟩) B.length cb)) (ds := []) #[false, false, false, false, false, false, false, false, false, false] (by kernel_rfl) rfl rfl ⟨g0, g1, g2, g3, g4⟩ (fun hHeld => ?_)
          refine with_tabW flow_lead16.tab16 flow_lead16.bits16 (fun HT_ HW_ => ?_)
          refine pure_ (i := 0) (N := some 85) (v := ?_) (a' := ?_) #[true, false, false, false, false, false, false, false, false, false] rfl rfl (any_of HT_.out (by kernel_rfl)) (fun _ _ _ h => h) (Or.inl ⟨by rfl, ?_⟩) ?_ ?_
          rotate_left
          · intro w'
            go_simp
            with_reducible rfl
          rotate_left
          · simp only [Act.put, List.setIfInBounds_toArray, List.set_cons_zero, List.set_cons_succ, i64_w, i32_w]
            rfl
          refine pure_ (i := 1) (N := some 86) (v := ?_) (a' := ?_) #[true, true, false, false, false, false, false, false, false, false] rfl rfl (any_of HT_.out (by kernel_rfl)) (fun _ _ _ h => h) (Or.inl ⟨by rfl, ?_⟩) ?_ ?_
          rotate_left
          · intro w'
            go_simp
            with_reducible rfl
          rotate_left
          · simp only [Act.put, List.setIfInBounds_toArray, List.set_cons_zero, List.set_cons_succ, i64_w, i32_w]
            rfl
          refine pure_ (i := 2) (N := some 87) (v := ?_) (a' := ?_) #[true, true, true, false, false, false, false, false, false, false] rfl rfl (any_of HT_.out (by kernel_rfl)) (fun _ _ _ h => h) (Or.inl ⟨by rfl, ?_⟩) ?_ ?_
          rotate_left
          · intro w'
            go_simp
            with_reducible rfl
          rotate_left
          · simp only [Act.put, List.setIfInBounds_toArray, List.set_cons_zero, List.set_cons_succ, i64_w, i32_w]
            rfl
          refine pure_ (i := 4) (N := some 89) (v := ?_) (a' := ?_) #[true, true, true, false, true, false, false, false, false, false] rfl rfl (any_of HT_.out (by kernel_rfl)) (fun _ _ _ h => h) (Or.inl ⟨by rfl, ?_⟩) ?_ ?_
          rotate_left
          · intro w'
            go_simp
            with_reducible rfl
          rotate_left
          · simp only [Act.put, List.setIfInBounds_toArray, List.set_cons_zero, List.set_cons_succ, i64_w, i32_w]
            rfl
          refine pure_ (i := 6) (N := some 91) (v := ?_) (a' := ?_) #[true, true, true, false, true, false, true, false, false, false] rfl rfl (any_of HT_.out (by kernel_rfl)) (fun _ _ _ h => h) (Or.inl ⟨by rfl, ?_⟩) ?_ ?_
          rotate_left
          · intro w'
            go_simp
            with_reducible rfl
          rotate_left
          · simp only [Act.put, List.setIfInBounds_toArray, List.set_cons_zero, List.set_cons_succ, i64_w, i32_w]
            rfl
          refine take_ (i := 3) (N := some 88) (v := ?_) (a' := ?_) #[true, true, true, true, true, false, true, false, false, false] rfl rfl (take_ofW HT_.out HW_.out (by kernel_rfl)) (fun _ _ _ h => h) (Or.inl ⟨by rfl, ?_⟩) hHeld ?_ ?_
          rotate_left
          · rintro w' ⟨s0, s1, s2, s3, s4⟩
            go_simp
            with_reducible rfl
          rotate_left
          · simp only [Act.put, List.setIfInBounds_toArray, List.set_cons_zero, List.set_cons_succ, i64_w, i32_w]
            rfl
          refine take_ (i := 5) (N := some 90) (v := ?_) (a' := ?_) #[true, true, true, true, true, true, true, false, false, false] rfl rfl (take_ofW HT_.out HW_.out (by kernel_rfl)) (fun _ _ _ h => h) (Or.inl ⟨by rfl, ?_⟩) hHeld ?_ ?_
          rotate_left
          · rintro w' ⟨s0, s1, s2, s3, s4⟩
            go_simp
            with_reducible rfl
          rotate_left
          · simp only [Act.put, List.setIfInBounds_toArray, List.set_cons_zero, List.set_cons_succ, i64_w, i32_w]
            rfl
          refine pure_ (i := 7) (N := some 92) (v := ?_) (a' := ?_) #[true, true, true, true, true, true, true, true, false, false] rfl rfl (any_of HT_.out (by kernel_rfl)) (fun _ _ _ h => h) (Or.inl ⟨by rfl, ?_⟩) ?_ ?_
          rotate_left
          · intro w'
            go_simp
            with_reducible rfl
          rotate_left
          · simp only [Act.put, List.setIfInBounds_toArray, List.set_cons_zero, List.set_cons_succ, i64_w, i32_w]
            rfl
          refine take_ (i := 8) (N := some 93) (v := ?_) (a' := ?_) #[true, true, true, true, true, true, true, true, true, false] rfl rfl (take_ofW HT_.out HW_.out (by kernel_rfl)) (fun _ _ _ h => h) (Or.inl ⟨by rfl, ?_⟩) hHeld ?_ ?_
          rotate_left
          · rintro w' ⟨s0, s1, s2, s3, s4⟩
            go_simp
            with_reducible rfl
          rotate_left
          · simp only [Act.put, List.setIfInBounds_toArray, List.set_cons_zero, List.set_cons_succ, i64_w, i32_w]
            rfl
          refine pure_ (i := 9) (N := some 94) (v := ?_) (a' := ?_) #[true, true, true, true, true, true, true, true, true, true] rfl rfl (any_of HT_.out (by kernel_rfl)) (fun _ _ _ h => h) (Or.inl ⟨by rfl, ?_⟩) ?_ ?_
          rotate_left
          · intro w'
            go_simp
            with_reducible rfl
          rotate_left
          · simp only [Act.put, List.setIfInBounds_toArray, List.set_cons_zero, List.set_cons_succ, i64_w, i32_w]
            rfl
          refine done_ (done_of HT_.out (by kernel_rfl)) ?_
          go_wp2
          go_roundg (gk - 1)
          case measure => have := HK2.out; omega
          case rel => exact ⟨i + 1, by go_num, ⟨by have := HK2.out; omega⟩, by omega, ⟨below_drew HBr.out⟩⟩
        · obtain rfl : i = B.length := by omega
          go_wp2_with (go_at_call 17; refine (flow_awake.calls _).mono ?_; rintro e w30 ⟨rfl, hb⟩; have HB30 := Aside0.mk (below_step HB1.out (below_step HB7.out (below_step HBr.out hb))); clear hb)
          go_ret
          exact ⟨rfl, HB30.out⟩
end Go.Proofs.Ytppanpboejpmjaa.Tr
