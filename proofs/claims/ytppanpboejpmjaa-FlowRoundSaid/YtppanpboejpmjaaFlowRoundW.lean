/- FlowRoundW: functions of the program walked by hand, and what they come to. -/
import Derived.Test.YtppanpboejpmjaaProg
import Derived.Below
import Derived.Deep.Draws
import Derived.Deep.AppendLies
import Derived.Maps.AppendAt
import Derived.OwnWalk
import Derived.Laws.BytesArg
import Derived.Laws.MakeOwn
import Derived.Laws.OwnMore
import Derived.Deep.OwnRows
import Derived.Tactics
import Derived.Lib.ConvBytes
import Derived.Laws.Slices
import Derived.WalkKit
import Derived.KernelRfl
import Derived.RowKit3
import Derived.Deep.LoopGhost
import Derived.Deep.QuietTactic
import Derived.BigQuiet
import Derived.WideLaws
import Derived.Deep.DeepCutAuto
import Derived.Deep.CutBlock
import Derived.Deep.RegionHeld3
import Derived.Laws.Rows
import Derived.Lib.AppendStr
import Derived.ArgAppend
import Derived.Laws.IdiomCopy
import Derived.OrdersHeld
import Derived.Laws.BitsLemmas
import Derived.RowKit
import Derived.Shelf.SlicesE.DeleteFunc
import Derived.Test.YtppanpboejpmjaaWWords
import Derived.Test.YtppanpboejpmjaaWLast
import Derived.Test.YtppanpboejpmjaaWTab
import Derived.Test.YtppanpboejpmjaaWFour
import Derived.Test.YtppanpboejpmjaaWQPut
import Derived.Test.YtppanpboejpmjaaWApart
import Derived.Test.YtppanpboejpmjaaWArr
import Derived.Test.YtppanpboejpmjaaWZeros
import Derived.Test.YtppanpboejpmjaaWFoot
import Derived.Test.YtppanpboejpmjaaWKept
import Derived.Test.YtppanpboejpmjaaWShare
import Derived.Test.YtppanpboejpmjaaWN
import Derived.Test.YtppanpboejpmjaaWFootNe
import Derived.Test.YtppanpboejpmjaaWAt
import Derived.Test.YtppanpboejpmjaaWEqStruct
import Derived.Test.YtppanpboejpmjaaWRepsOne
import Derived.Test.YtppanpboejpmjaaWInv
import Derived.Test.YtppanpboejpmjaaWInvWords
import Derived.Test.YtppanpboejpmjaaWGuard
import Derived.Test.YtppanpboejpmjaaWNEv
import Derived.Test.YtppanpboejpmjaaWMore
import Derived.Test.YtppanpboejpmjaaTr0
import Derived.Test.YtppanpboejpmjaaFlowN
import Derived.Test.YtppanpboejpmjaaFlowP
import Derived.Test.YtppanpboejpmjaaTr4
import Derived.Test.YtppanpboejpmjaaFlowH
import Derived.Test.YtppanpboejpmjaaWTab
import Derived.Outline
set_option linter.all false
namespace Go.Proofs.Ytppanpboejpmjaa.Tr
open Go.RowKit Go.Proofs.YtppanpboejpmjaaW.PrintWords Go.Proofs.YtppanpboejpmjaaW.PrintLast Go.Proofs.YtppanpboejpmjaaW.PrintMore
set_option linter.unusedVariables false
def atI (Od : List Int) (N : Nat) : Nat → List Int
  | 0 => List.replicate N 0
  | i + 1 => (atI Od N i).set (rd Od (i : Int)).toNat ((i : Int) + 1)
theorem atI_len (Od : List Int) (N : Nat) : ∀ i, (atI Od N i).length = N
  | 0 => List.length_replicate
  | i + 1 => by rw [atI, List.length_set, atI_len Od N i]
def isBack (B : List (Int × Int)) (n t : Int) (j : Nat) : Bool := (B.take j).any (fun x => x.1 == n && x.2 == t)
theorem isBack_step {B : List (Int × Int)} {n t : Int} {j : Nat} (hj : j < B.length) : isBack B n t (j + 1) = (isBack B n t j || (B[j].1 == n && B[j].2 == t)) := by
  unfold isBack
  rw [List.take_succ_eq_append_getElem hj, List.any_append]; simp
/-- what the walk of FlowRound asks of a procedure -/
def round_ok (a0 : ByteArray) (a1 : Bool) (a2 a3 : Int) (l4 : List S76) (l5 : List S45) : Prop := ∃ (k : Nat) (Od : List Int) (B : List (Int × Int)) (R : List Bool), l5.length ≤ 40 ∧ flow_Order.f k a0 a1 a2 a3 l4 l5 = some Od ∧ flow_Back.f k a0 a1 a2 a3 l4 l5 = some B ∧ flow_Reach.f k a0 a1 a2 a3 l4 l5 = some R ∧ R.length = l5.length ∧ B.length ≤ 1000 ∧ Od.length ≤ 1000 ∧
  (∀ i : Nat, i < Od.length → 0 ≤ rd Od (i : Int) ∧ rd Od (i : Int) < (l5.length : Int) ∧ rd (atI Od l5.length i) (rd Od (i : Int)) = 0 ∧ rdOf false R (rd Od (i : Int)) = true ∧ (i = 0 → rd Od (i : Int) = 0)) ∧
  (∀ n : Nat, n < l5.length → rdOf false R (n : Int) = decide (rd (atI Od l5.length Od.length) (n : Int) > 0)) ∧
  (∀ n : Nat, n < l5.length → ∃ O : List Int, rushlightref16_Outs.f k a0 a1 a2 a3 l4 l5 (n : Int) = some O ∧ O.length ≤ 2 ∧ ∀ t ∈ O, 0 ≤ t ∧ t < (l5.length : Int) ∧ (rdOf false R (n : Int) = true → (isBack B (n : Int) t B.length == decide (rd (atI Od l5.length Od.length) t > rd (atI Od l5.length Od.length) (n : Int))) = false))
theorem round_back {w : World} {base g c n i : Nat} {B : List (Int × Int)} (h : w.ownsRow base 52 2 (.slice (some ⟨g, 0, none⟩) n c) B.length (B.flatMap fun x => [.int .i64 x.1, .int .i64 x.2])) (hi : i < B.length) : w.cell? ⟨g, i * 2, none⟩ = some (.int .i64 B[i].1) ∧ w.cell? ⟨g, i * 2 + 1, none⟩ = some (.int .i64 B[i].2) := by
  obtain ⟨g', cap, e, hc⟩ := flow_own_cells h (by omega)
  injection e with e _ _
  injection e with e
  injection e with e
  subst e
  have hx : ∀ (B : List (Int × Int)) (i : Nat) (hi : i < B.length), (B.flatMap fun x => [Value.int .i64 x.1, .int .i64 x.2])[i * 2]? = some (.int .i64 B[i].1) ∧ (B.flatMap fun x => [Value.int .i64 x.1, .int .i64 x.2])[i * 2 + 1]? = some (.int .i64 B[i].2) := by
    intro B
    induction B with
    | nil => intro i hi; simp at hi
    | cons a B ih =>
      intro i hi
      cases i with
      | zero => simp
      | succ i =>
        have := ih i (by simpa using hi)
        rw [List.flatMap_cons, show (i + 1) * 2 = i * 2 + 1 + 1 by omega]
        simpa using this
  exact ⟨hc _ _ (hx B i hi).1, hc _ _ (hx B i hi).2⟩
theorem round_cell {w : World} {b : Nat} {A : List Int} (h : w.heap[b]? = some (.cells (nums .i64 A).toArray 3 (0, 0))) (i : Nat) (hi : i < A.length) : w.cell? ⟨b, i, none⟩ = some (.int .i64 (rd A (i : Int))) := by
  rw [blk_cell h]
  simp [nums, rd, List.getElem?_eq_getElem hi]
def flow_round3.T3 : Bool × List (List Nat × List Nat) := (true, [([], []), ([0], [0]), ([], []), ([2, 1], [2]), ([], []), ([4, 3], [4]), ([1, 5, 0, 1], [1]), ([3, 6, 0, 1, 2, 3, 6], [3]), ([5, 7, 0, 1, 2, 3, 4, 5, 6, 7], [5])])
def flow_round3.B3 : List Nat := [0, 1, 0, 7, 0, 31, 63, 127, 255]
theorem flow_round3.tab3 : rtab .any (opsOf Try.f5 3) = flow_round3.T3 := by kernel_rfl
theorem flow_round3.bits3 : waitsOk flow_round3.T3.2 flow_round3.B3 = true := by kernel_rfl
def flow_round15.T15 : Bool × List (List Nat × List Nat) := (true, [([], []), ([], []), ([1], [1]), ([0, 2], [0, 2]), ([3], [3]), ([4], [4]), ([4], [4]), ([5, 6, 4], [4, 5, 6]), ([7, 4], [4, 7]), ([4], [4]), ([4], [4]), ([9, 10, 4], [4, 9, 10]), ([11, 4], [4, 11]), ([12, 4], [4, 12]), ([8, 13, 4], [4, 8, 13]), ([4, 14], [4, 14])])
def flow_round15.B15 : List Nat := [0, 0, 2, 7, 15, 31, 31, 127, 255, 31, 31, 1567, 3615, 7711, 16383, 32767]
theorem flow_round15.tab15 : rtab .any (opsOf Try.f5 15) = flow_round15.T15 := by kernel_rfl
theorem flow_round15.bits15 : waitsOk flow_round15.T15.2 flow_round15.B15 = true := by kernel_rfl
def flow_round25.T25 : Bool × List (List Nat × List Nat) := (true, [([], []), ([0], [0]), ([1], [1]), ([1], [1]), ([2, 3, 1], [1, 2, 3]), ([4, 1], [1, 4]), ([1], [1]), ([1], [1]), ([1], [1]), ([7, 8, 1], [1, 7, 8]), ([9, 1], [1, 9]), ([6, 10, 1], [1, 6, 10]), ([5, 11, 1], [1, 5, 11]), ([1, 12], [1, 12]), ([13, 1, 0, 1, 2, 3, 4, 5, 6, 7, 8, 9, 10, 11, 12, 13], [0, 13])])
def flow_round25.B25 : List Nat := [0, 1, 3, 3, 15, 31, 3, 3, 3, 387, 899, 1987, 4095, 8191, 16383]
theorem flow_round25.tab25 : rtab .any (opsOf Try.f5 25) = flow_round25.T25 := by kernel_rfl
theorem flow_round25.bits25 : waitsOk flow_round25.T25.2 flow_round25.B25 = true := by kernel_rfl
def flow_round26.T26 : Bool × List (List Nat × List Nat) := (true, [([], []), ([], []), ([], []), ([], []), ([2, 3], [2, 3]), ([4], [4]), ([1, 5], [1, 5]), ([6], [6]), ([], []), ([], []), ([8, 9], [8, 9]), ([10], [10]), ([7, 11], [7, 11]), ([0, 12], [0, 12])])
def flow_round26.B26 : List Nat := [0, 0, 0, 0, 12, 28, 62, 126, 0, 0, 768, 1792, 4094, 8191]
theorem flow_round26.tab26 : rtab .any (opsOf Try.f5 26) = flow_round26.T26 := by kernel_rfl
theorem flow_round26.bits26 : waitsOk flow_round26.T26.2 flow_round26.B26 = true := by kernel_rfl
set_option maxHeartbeats 8000000 in
set_option maxRecDepth 100000 in
theorem flow_FlowRound.walk (a0 : ByteArray) (a1 : Bool) (a2 a3 : Int) (A4 : Option Addr) (c4 : Nat) (l4 : List S76) (A5 : Option Addr) (c5 : Nat) (l5 : List S45) (w0 : World)
    (hr4 : Kd.C k76 w0 A4 l4.length l4) (hc4 : l4.length ≤ c4) (hr5 : Kd.C k45 w0 A5 l5.length l5) (hc5 : l5.length ≤ c5) (hok : a3 ≤ 30 ∧ law_okP l5 → round_ok a0 a1 a2 a3 l4 l5) :
    Calls Try.prog 5 #[.agg #[.string a0, .bool a1, .int .i64 a2, .int .i64 a3, .slice A4 l4.length c4, .slice A5 l5.length c5]] w0 fun e w' => e = .returned (.bool true) ∧ Below w0.heap.size w0 w' := by
  have hu31 := Try.underlying31
  have hu46 := Try.underlying46
  have hu48 := Try.underlying48
  have hu52 := Try.underlying52
  have hu41 := Try.underlying41
  have hu29 := Try.underlying29
  have BW := Aside0.mk (below_alloc (Below.refl w0.heap.size w0) (.cells #[.string a0, .bool a1, .int .i64 a2, .int .i64 a3, .slice A4 l4.length c4, .slice A5 l5.length c5] 31))
  have BX := Aside0.mk (blk_new w0 (.cells #[.string a0, .bool a1, .int .i64 a2, .int .i64 a3, .slice A4 l4.length c4, .slice A5 l5.length c5] 31))
  have HR4 := Aside0.mk hr4
  have HR5 := Aside0.mk hr5
  have HC4 := Aside0.mk hc4
  have HC5 := Aside0.mk hc5
  have HOK := Aside0.mk hok
  clear hr4 hr5 hc4 hc5 hok
  go_enter Try.func5, Try.ntmps5
  go_upto_region 3 with (go_at_call 16; refine (law16_few.calls a0 a1 a2 a3 A4 c4 l4 A5 c5 l5 _ (Kd.C_below HR4.out BW.out) HC4.out (Kd.C_below HR5.out BW.out) HC5.out).mono ?_; rintro e w1 ⟨bb, rfl, hbb, hb⟩; have HBB := Aside0.mk hbb; have HB1 := Aside0.mk (below_step BW.out hb); have BX1 := Aside0.mk (blk_below BX.out hb); cases bb; clear hbb hb)
  · go_wp2_with (go_at_call 17; refine (flow_awake.calls _).mono ?_; rintro e w2 ⟨rfl, hb⟩; have HB2 := Aside0.mk (below_step HB1.out hb); clear hb)
    go_ret
    exact ⟨rfl, HB2.out⟩
  obtain ⟨k, Od, B, R, hN, h1, h2, h3, h4, h5, h6, h7, h8, h9⟩ := HOK.out (by first | exact HBB.out rfl | exact HBB.out trivial)
  have Q1 := Aside0.mk h1
  have Q2 := Aside0.mk h2
  have Q3 := Aside0.mk h3
  have Q4 := Aside0.mk h4
  have Q7 := Aside0.mk h7
  have Q8 := Aside0.mk h8
  have Q9 := Aside0.mk h9
  clear h1 h2 h3 h4 h7 h8 h9
  have f0 : w1.cell? ⟨w0.heap.size, 0, none⟩ = some (.string a0) := (blk_cell (blk_below BX1.out (Below.refl _ _)) 0).trans rfl
  have f1 : w1.cell? ⟨w0.heap.size, 1, none⟩ = some (.bool a1) := (blk_cell (blk_below BX1.out (Below.refl _ _)) 1).trans rfl
  have f2 : w1.cell? ⟨w0.heap.size, 2, none⟩ = some (.int .i64 a2) := (blk_cell (blk_below BX1.out (Below.refl _ _)) 2).trans rfl
  have f3 : w1.cell? ⟨w0.heap.size, 3, none⟩ = some (.int .i64 a3) := (blk_cell (blk_below BX1.out (Below.refl _ _)) 3).trans rfl
  have f4 : w1.cell? ⟨w0.heap.size, 4, none⟩ = some (.slice A4 l4.length c4) := (blk_cell (blk_below BX1.out (Below.refl _ _)) 4).trans rfl
  have f5 : w1.cell? ⟨w0.heap.size, 5, none⟩ = some (.slice A5 l5.length c5) := (blk_cell (blk_below BX1.out (Below.refl _ _)) 5).trans rfl
  have HM := Aside0.mk (blk_lt BX1.out)
  refine start_ (n := 9) (S := fun w' => w'.cell? ⟨w0.heap.size, 0, none⟩ = some (.string a0) ∧ w'.cell? ⟨w0.heap.size, 1, none⟩ = some (.bool a1) ∧ w'.cell? ⟨w0.heap.size, 2, none⟩ = some (.int .i64 a2) ∧ w'.cell? ⟨w0.heap.size, 3, none⟩ = some (.int .i64 a3) ∧ w'.cell? ⟨w0.heap.size, 4, none⟩ = some (.slice A4 l4.length c4) ∧ w'.cell? ⟨w0.heap.size, 5, none⟩ = some (.slice A5 l5.length c5)) (ds := []) #[false, false, false, false, false, false, false, false, false] (by kernel_rfl) rfl rfl ⟨f0, f1, f2, f3, f4, f5⟩ (fun hHeld => ?_)
  refine with_tabW flow_round3.tab3 flow_round3.bits3 (fun HT_ HW_ => ?_)
  refine take_ (i := 0) (N := some 18) (v := ?_) (a' := ?_) #[true, false, false, false, false, false, false, false, false] rfl rfl (take_ofW HT_.out HW_.out (by kernel_rfl)) (fun _ _ _ h => h) (Or.inl ⟨by rfl, ?_⟩) hHeld ?_ ?_
  rotate_left
  · rintro w' ⟨s0, s1, s2, s3, s4, s5⟩
    go_simp
    with_reducible rfl
  rotate_left
  · simp only [Act.put, List.setIfInBounds_toArray, List.set_cons_zero, List.set_cons_succ, i64_w, i32_w]
    rfl
  refine take_ (i := 2) (N := some 20) (v := ?_) (a' := ?_) #[true, false, true, false, false, false, false, false, false] rfl rfl (take_ofW HT_.out HW_.out (by kernel_rfl)) (fun _ _ _ h => h) (Or.inl ⟨by rfl, ?_⟩) hHeld ?_ ?_
  rotate_left
  · rintro w' ⟨s0, s1, s2, s3, s4, s5⟩
    go_simp
    with_reducible rfl
  rotate_left
  · simp only [Act.put, List.setIfInBounds_toArray, List.set_cons_zero, List.set_cons_succ, i64_w, i32_w]
    rfl
  refine take_ (i := 4) (N := some 22) (v := ?_) (a' := ?_) #[true, false, true, false, true, false, false, false, false] rfl rfl (take_ofW HT_.out HW_.out (by kernel_rfl)) (fun _ _ _ h => h) (Or.inl ⟨by rfl, ?_⟩) hHeld ?_ ?_
  rotate_left
  · rintro w' ⟨s0, s1, s2, s3, s4, s5⟩
    go_simp
    with_reducible rfl
  rotate_left
  · simp only [Act.put, List.setIfInBounds_toArray, List.set_cons_zero, List.set_cons_succ, i64_w, i32_w]
    rfl
  refine one_ (i := 1) (N := some 19) #[true, true, true, false, true, false, false, false, false] rfl rfl (one_of HT_.out (by kernel_rfl)) (by decide) (fun K hK => ?_)
  refine goes_ Try.func20 (by kernel_rfl) rfl #[.agg #[.string a0, .bool a1, .int .i64 a2, .int .i64 a3, .slice A4 l4.length c4, .slice A5 l5.length c5]] (by rfl) rfl rfl (by simp only [List.map_toArray, List.map_cons, List.map_nil]; rfl) ?_
  with_reducible refine (flow_Order.calls k a0 a1 a2 a3 A4 c4 l4 A5 c5 l5 Od _ (Kd.C_below HR4.out (below_step HB1.out (below_drew (Below.refl _ _)))) HC4.out (Kd.C_below HR5.out (below_step HB1.out (below_drew (Below.refl _ _)))) HC5.out Q1.out).mono ?_
  rintro e w2 ⟨vO, rfl, hR, hb⟩
  refine ⟨_, rfl, ?_⟩
  obtain ⟨AO, cO, ev⟩ := Kd.R_slice hR
  subst ev
  have SO2 := Aside0.mk hR
  have HB2 := Aside0.mk (below_step (below_drew (Below.refl w1.heap.size w1)) hb)
  obtain ⟨z0, z1, z2, z3, z4, z5⟩ := hHeld
  refine hK.out _ _ ⟨(hb.cell (World.block_lt_of_cell? _ _ z0)).trans z0, (hb.cell (World.block_lt_of_cell? _ _ z1)).trans z1, (hb.cell (World.block_lt_of_cell? _ _ z2)).trans z2, (hb.cell (World.block_lt_of_cell? _ _ z3)).trans z3, (hb.cell (World.block_lt_of_cell? _ _ z4)).trans z4, (hb.cell (World.block_lt_of_cell? _ _ z5)).trans z5⟩ (fun hHeld => ?_)
  clear hK K
  refine norm_ (a' := ?_) ?_ ?_
  rotate_left
  · show Act.put _ (some 19) _ = _
    simp only [Act.put, List.setIfInBounds_toArray, List.set_cons_zero, List.set_cons_succ, i64_w, i32_w]
    rfl
  refine one_ (i := 3) (N := some 21) #[true, true, true, true, true, false, false, false, false] rfl rfl (one_of HT_.out (by kernel_rfl)) (by decide) (fun K hK => ?_)
  refine goes_ Try.func21 (by kernel_rfl) rfl #[.agg #[.string a0, .bool a1, .int .i64 a2, .int .i64 a3, .slice A4 l4.length c4, .slice A5 l5.length c5]] (by rfl) rfl rfl (by simp only [List.map_toArray, List.map_cons, List.map_nil]; rfl) ?_
  with_reducible refine (flow_Back.calls k a0 a1 a2 a3 A4 c4 l4 A5 c5 l5 B _ (Kd.C_below HR4.out (below_step HB1.out HB2.out)) HC4.out (Kd.C_below HR5.out (below_step HB1.out HB2.out)) HC5.out Q2.out).mono ?_
  rintro e w3 ⟨vB, rfl, hR, hb⟩
  refine ⟨_, rfl, ?_⟩
  obtain ⟨AB, cB, ev⟩ := flow_own_slice hR
  subst ev
  have SO3 := Aside0.mk (Kd.R_below SO2.out hb)
  have SB3 := Aside0.mk hR
  have HB3 := Aside0.mk (below_step HB2.out hb)
  obtain ⟨z0, z1, z2, z3, z4, z5⟩ := hHeld
  refine hK.out _ _ ⟨(hb.cell (World.block_lt_of_cell? _ _ z0)).trans z0, (hb.cell (World.block_lt_of_cell? _ _ z1)).trans z1, (hb.cell (World.block_lt_of_cell? _ _ z2)).trans z2, (hb.cell (World.block_lt_of_cell? _ _ z3)).trans z3, (hb.cell (World.block_lt_of_cell? _ _ z4)).trans z4, (hb.cell (World.block_lt_of_cell? _ _ z5)).trans z5⟩ (fun hHeld => ?_)
  clear hK K
  refine norm_ (a' := ?_) ?_ ?_
  rotate_left
  · show Act.put _ (some 21) _ = _
    simp only [Act.put, List.setIfInBounds_toArray, List.set_cons_zero, List.set_cons_succ, i64_w, i32_w]
    rfl
  refine one_ (i := 5) (N := some 23) #[true, true, true, true, true, true, false, false, false] rfl rfl (one_of HT_.out (by kernel_rfl)) (by decide) (fun K hK => ?_)
  refine goes_ Try.func22 (by kernel_rfl) rfl #[.agg #[.string a0, .bool a1, .int .i64 a2, .int .i64 a3, .slice A4 l4.length c4, .slice A5 l5.length c5]] (by rfl) rfl rfl (by simp only [List.map_toArray, List.map_cons, List.map_nil]; rfl) ?_
  with_reducible refine (flow_Reach.calls k a0 a1 a2 a3 A4 c4 l4 A5 c5 l5 R _ (Kd.C_below HR4.out (below_step HB1.out HB3.out)) HC4.out (Kd.C_below HR5.out (below_step HB1.out HB3.out)) HC5.out Q3.out).mono ?_
  rintro e w4 ⟨vR, rfl, hR, hb⟩
  refine ⟨_, rfl, ?_⟩
  obtain ⟨AR, cR, ev⟩ := Kd.R_slice hR
  subst ev
  have SO4 := Aside0.mk (Kd.R_below SO3.out hb)
  have SB4 := Aside0.mk (own_other SB3.out (grown_below hb) (by simp))
  have SR4 := Aside0.mk hR
  have HB4 := Aside0.mk (below_step HB3.out hb)
  obtain ⟨z0, z1, z2, z3, z4, z5⟩ := hHeld
  refine hK.out _ _ ⟨(hb.cell (World.block_lt_of_cell? _ _ z0)).trans z0, (hb.cell (World.block_lt_of_cell? _ _ z1)).trans z1, (hb.cell (World.block_lt_of_cell? _ _ z2)).trans z2, (hb.cell (World.block_lt_of_cell? _ _ z3)).trans z3, (hb.cell (World.block_lt_of_cell? _ _ z4)).trans z4, (hb.cell (World.block_lt_of_cell? _ _ z5)).trans z5⟩ (fun hHeld => ?_)
  clear hK K
  refine norm_ (a' := ?_) ?_ ?_
  rotate_left
  · show Act.put _ (some 23) _ = _
    simp only [Act.put, List.setIfInBounds_toArray, List.set_cons_zero, List.set_cons_succ, i64_w, i32_w]
    rfl
  refine pure_ (i := 6) (N := some 3) (v := ?_) (a' := ?_) #[true, true, true, true, true, true, true, false, false] rfl rfl (any_of HT_.out (by kernel_rfl)) (fun _ _ _ h => h) (Or.inl ⟨by rfl, ?_⟩) ?_ ?_
  rotate_left
  · intro w'
    go_simp
    with_reducible rfl
  rotate_left
  · simp only [Act.put, List.setIfInBounds_toArray, List.set_cons_zero, List.set_cons_succ, i64_w, i32_w]
    rfl
  refine pure_ (i := 7) (N := some 4) (v := ?_) (a' := ?_) #[true, true, true, true, true, true, true, true, false] rfl rfl (any_of HT_.out (by kernel_rfl)) (fun _ _ _ h => h) (Or.inl ⟨by rfl, ?_⟩) ?_ ?_
  rotate_left
  · intro w'
    go_simp
    with_reducible rfl
  rotate_left
  · simp only [Act.put, List.setIfInBounds_toArray, List.set_cons_zero, List.set_cons_succ, i64_w, i32_w]
    rfl
  refine pure_ (i := 8) (N := some 5) (v := ?_) (a' := ?_) #[true, true, true, true, true, true, true, true, true] rfl rfl (any_of HT_.out (by kernel_rfl)) (fun _ _ _ h => h) (Or.inl ⟨by rfl, ?_⟩) ?_ ?_
  rotate_left
  · intro w'
    go_simp
    with_reducible rfl
  rotate_left
  · simp only [Act.put, List.setIfInBounds_toArray, List.set_cons_zero, List.set_cons_succ, i64_w, i32_w]
    rfl
  refine done_ (done_of HT_.out (by kernel_rfl)) ?_
  clear f0 f1 f2 f3 f4 f5 hHeld SO2 SO3 SB3
  have f5 : w4.cell? ⟨w0.heap.size, 5, none⟩ = some (.slice A5 l5.length c5) := (blk_cell (blk_below BX1.out HB4.out) 5).trans rfl
  have hm4 := run_make_row' (P := Try.prog) 46 3 (.int .i64 0) 8 Try.underlying46 (by kernel_rfl) rfl .i64 .i64 l5.length (by omega) (by omega)
  go_upto_region 6 with (fail)
  clear f5
  have HB5 := Aside0.mk (below_alloc (Below.refl w4.heap.size w4) (.cells (madeCells #[.int .i64 0] l5.length) 3))
  have HA5 : Aside0 ((w4.alloc (.cells (madeCells #[.int .i64 0] l5.length) 3)).heap[w4.heap.size]? = some (.cells (nums .i64 (atI Od l5.length 0)).toArray 3 (0, 0))) := ⟨by
    have e : madeCells #[.int .i64 0] l5.length = (nums .i64 (atI Od l5.length 0)).toArray := by
      apply Array.ext'
      rw [toList_madeCells_one]; simp [nums, atI]
    rw [← e]; exact blk_new _ _⟩
  go_loopg [7] Od.length (fun kq v7 w' => ∃ i : Nat, v7 = .int .i64 i ∧ Aside0 (kq + i = Od.length) ∧ i ≤ Od.length ∧ Aside0 (Below w4.heap.size w4 w') ∧ Aside0 (w'.heap[w4.heap.size]? = some (.cells (nums .i64 (atI Od l5.length i)).toArray 3 (0, 0))))
  case atStart => exact ⟨0, rfl, ⟨rfl⟩, Nat.zero_le _, HB5, HA5⟩
  case round =>
    clear HB5 HA5 hm4
    obtain ⟨i, rfl, HK, hi, HB, HA⟩ := hrel
    by_cases hio : i < Od.length
    · obtain ⟨c1, c2, c3, c4', c5'⟩ := Q7.out i hio
      obtain ⟨gO, kO, ev, _⟩ := Kd.R_form SO4.out (by omega)
      injection ev with ev _ ec
      subst ev; subst ec
      have p1 : (0 : Int) ≤ (i : Int) := Int.natCast_nonneg _
      have p2 : (i : Int) < (Od.length : Int) := by omega
      have g0 : wr.cell? ⟨gO, i, none⟩ = some (.int .i64 (rd Od (i : Int))) := by
        have := (Kd.R_celln (enc := Value.int .i64) (h1 := fun _ => rfl) (0 : Int) SO4.out (i : Int) p1 (by omega)).1
        rw [Int.toNat_natCast] at this
        exact (HB.out.cell (World.block_lt_of_cell? _ _ this)).trans this
      obtain ⟨gR, kR, ev, _⟩ := Kd.R_form SR4.out (by have := Q4.out; omega)
      injection ev with ev _ ec
      subst ev; subst ec
      have HAT := Aside0.mk (show atI Od l5.length (i + 1) = (atI Od l5.length i).set (rd Od (i : Int)).toNat ((i : Int) + 1) from rfl)
      generalize hx : rd Od (i : Int) = x at *
      obtain ⟨xn, rfl⟩ := Int.eq_ofNat_of_zero_le c1
      have hxl : xn < l5.length := by omega
      have g1 : wr.cell? ⟨w4.heap.size, xn, none⟩ = some (.int .i64 0) := by
        have := round_cell HA.out xn (by rw [atI_len]; exact hxl)
        rw [c3] at this; exact this
      have z1 := blk_frozen HA.out xn
      have p3 : (0 : Int) ≤ (xn : Int) := Int.natCast_nonneg _
      have p4 : (xn : Int) < (l5.length : Int) := by omega
      have p5 : (xn : Int) < (R.length : Int) := by have := Q4.out; omega
      have g2 : wr.cell? ⟨gR, xn, none⟩ = some (.bool true) := by
        have := (Kd.R_celln (enc := Value.bool) (h1 := fun _ => rfl) false SR4.out (xn : Int) p3 p5).1
        rw [Int.toNat_natCast, c4'] at this
        exact (HB.out.cell (World.block_lt_of_cell? _ _ this)).trans this
      rw [Int.toNat_natCast] at HAT
      have HX5 := Aside0.mk c5'
      clear c1 c2 c3 c4' c5' hx
      have go1 : Aside0 (Below w4.heap.size w4 (wr.setCell ⟨w4.heap.size, xn, none⟩ (.int .i64 ((i : Int) + 1)))) := ⟨below_set HB.out (Nat.le_refl _)⟩
      have go2 : Aside0 ((wr.setCell ⟨w4.heap.size, xn, none⟩ (.int .i64 ((i : Int) + 1))).heap[w4.heap.size]? = some (.cells (nums .i64 (atI Od l5.length (i + 1))).toArray 3 (0, 0))) := ⟨by rw [HAT.out]; exact blk_put HA.out xn _ (by simp [nums, List.map_set])⟩
      by_cases h0 : i = 0
      · obtain rfl : xn = 0 := by have := HX5.out h0; omega
        subst h0
        have q0 : wr.cell? ⟨gO, 0, none⟩ = some (.int .i64 0) := g0
        have q1 : (0 : Int) < (l5.length : Int) := p4
        have q2 : (0 : Int) < (R.length : Int) := p5
        have q3 : (0 : Int) < (Od.length : Int) := p2
        have q4 : ¬ l5.length = 0 := by omega
        have q5 : ¬ R.length = 0 := by omega
        have q6 : ¬ l5 = [] := fun e => q4 (by rw [e]; rfl)
        have q7 : ¬ R = [] := fun e => q5 (by rw [e]; rfl)
        clear g0 p1 p2 p3 p4 p5
        go_wp2
        go_roundg (gk - 1)
        case measure => have := HK.out; omega
        case rel => exact ⟨1, by go_num, ⟨by have := HK.out; omega⟩, by omega, go1, go2⟩
      · have b0 : ((i : Int) == 0) = false := beq_eq_false_iff_ne.mpr (by omega)
        go_wp2
        go_roundg (gk - 1)
        case measure => have := HK.out; omega
        case rel => exact ⟨i + 1, by go_num, ⟨by have := HK.out; omega⟩, by omega, go1, go2⟩
    · obtain rfl : i = Od.length := by omega
      have hAl := Aside0.mk (atI_len Od l5.length Od.length)
      have f5 : wr.cell? ⟨w0.heap.size, 5, none⟩ = some (.slice A5 l5.length c5) := (blk_cell (blk_below BX1.out (below_step HB4.out HB.out)) 5).trans rfl
      go_upto_region 13 with (fail)
      clear f5
      generalize atI Od l5.length Od.length = A at HA hAl Q8 Q9
      go_loopg [9] l5.length (fun kq v9 w' => ∃ n : Nat, v9 = .int .i64 n ∧ Aside0 (kq + n = l5.length) ∧ n ≤ l5.length ∧ Aside0 (Below w4.heap.size w4 w') ∧ Aside0 (w'.heap[w4.heap.size]? = some (.cells (nums .i64 A).toArray 3 (0, 0))))
      case atStart => exact ⟨0, rfl, ⟨rfl⟩, Nat.zero_le _, HB, HA⟩
      case round =>
        clear HB HA HK
        obtain ⟨n, rfl, HK, hn, HB, HA⟩ := hrel
        have h0 : wr.cell? ⟨w0.heap.size, 0, none⟩ = some (.string a0) := (blk_cell (blk_below BX1.out (below_step HB4.out HB.out)) 0).trans rfl
        have h1 : wr.cell? ⟨w0.heap.size, 1, none⟩ = some (.bool a1) := (blk_cell (blk_below BX1.out (below_step HB4.out HB.out)) 1).trans rfl
        have h2 : wr.cell? ⟨w0.heap.size, 2, none⟩ = some (.int .i64 a2) := (blk_cell (blk_below BX1.out (below_step HB4.out HB.out)) 2).trans rfl
        have h3 : wr.cell? ⟨w0.heap.size, 3, none⟩ = some (.int .i64 a3) := (blk_cell (blk_below BX1.out (below_step HB4.out HB.out)) 3).trans rfl
        have h4 : wr.cell? ⟨w0.heap.size, 4, none⟩ = some (.slice A4 l4.length c4) := (blk_cell (blk_below BX1.out (below_step HB4.out HB.out)) 4).trans rfl
        have h5 : wr.cell? ⟨w0.heap.size, 5, none⟩ = some (.slice A5 l5.length c5) := (blk_cell (blk_below BX1.out (below_step HB4.out HB.out)) 5).trans rfl
        by_cases hnl : n < l5.length
        · have p1 : (0 : Int) ≤ (n : Int) := Int.natCast_nonneg _
          have p2 : (n : Int) < (l5.length : Int) := by omega
          have p3 : (n : Int) < (R.length : Int) := by have := Q4.out; omega
          obtain ⟨gR, kR, ev, _⟩ := Kd.R_form SR4.out (by have := Q4.out; omega)
          injection ev with ev _ ec
          subst ev; subst ec
          have g0 : wr.cell? ⟨gR, n, none⟩ = some (.bool (rdOf false R (n : Int))) := by
            have := (Kd.R_celln (enc := Value.bool) (h1 := fun _ => rfl) false SR4.out (n : Int) p1 p3).1
            rw [Int.toNat_natCast] at this
            exact (HB.out.cell (World.block_lt_of_cell? _ _ this)).trans this
          have g1 := round_cell HA.out n (by have := hAl.out; omega)
          have hd := (Q8.out n hnl).symm
          obtain ⟨O, o1, o2, o3⟩ := Q9.out n hnl
          have QO := Aside0.mk o1
          have QT := Aside0.mk o3
          clear o1 o3
          have hgR : Aside0 (∀ W : World, Below w4.heap.size w4 W → W.cell? ⟨gR, n, none⟩ = some (.bool (rdOf false R (n : Int)))) := ⟨fun W hW => by
            have := (Kd.R_celln (enc := Value.bool) (h1 := fun _ => rfl) false SR4.out (n : Int) p1 p3).1
            rw [Int.toNat_natCast] at this
            exact (hW.cell (World.block_lt_of_cell? _ _ this)).trans this⟩
          generalize rdOf false R (n : Int) = rb at g0 hd QT hgR
          have b9 : decide ((n : Int) ≥ (R.length : Int)) = false := decide_eq_false (by omega)
          have b10 : ¬ R.length ≤ n := by omega
          go_upto_region 15 with (fail)
          generalize hann : rd A (n : Int) = an at g1 hd QT
          have HAN := Aside0.mk hann
          clear hann
          refine start_ (n := 16) (S := fun w' => w'.cell? ⟨gR, n, none⟩ = some (.bool rb) ∧ w'.cell? ⟨w4.heap.size, n, none⟩ = some (.int .i64 an)) (ds := []) #[false, false, false, false, false, false, false, false, false, false, false, false, false, false, false, false] (by kernel_rfl) rfl rfl ⟨g0, g1⟩ (fun hHeld => ?_)
          refine with_tabW flow_round15.tab15 flow_round15.bits15 (fun HT_ HW_ => ?_)
          refine pure_ (i := 0) (N := some 86) (v := ?_) (a' := ?_) #[true, false, false, false, false, false, false, false, false, false, false, false, false, false, false, false] rfl rfl (any_of HT_.out (by kernel_rfl)) (fun _ _ _ h => h) (Or.inl ⟨by rfl, ?_⟩) ?_ ?_
          rotate_left
          · intro w'
            go_simp
            with_reducible rfl
          rotate_left
          · simp only [Act.put, List.setIfInBounds_toArray, List.set_cons_zero, List.set_cons_succ, i64_w, i32_w]
            rfl
          refine pure_ (i := 1) (N := some 87) (v := ?_) (a' := ?_) #[true, true, false, false, false, false, false, false, false, false, false, false, false, false, false, false] rfl rfl (any_of HT_.out (by kernel_rfl)) (fun _ _ _ h => h) (Or.inl ⟨by rfl, ?_⟩) ?_ ?_
          rotate_left
          · intro w'
            go_simp
            with_reducible rfl
          rotate_left
          · simp only [Act.put, List.setIfInBounds_toArray, List.set_cons_zero, List.set_cons_succ, i64_w, i32_w]
            rfl
          refine pure_ (i := 2) (N := some 88) (v := ?_) (a' := ?_) #[true, true, true, false, false, false, false, false, false, false, false, false, false, false, false, false] rfl rfl (any_of HT_.out (by kernel_rfl)) (fun _ _ _ h => h) (Or.inl ⟨by rfl, ?_⟩) ?_ ?_
          rotate_left
          · intro w'
            go_simp
            with_reducible rfl
          rotate_left
          · simp only [Act.put, List.setIfInBounds_toArray, List.set_cons_zero, List.set_cons_succ, i64_w, i32_w]
            rfl
          refine pure_ (i := 3) (N := some 89) (v := ?_) (a' := ?_) #[true, true, true, true, false, false, false, false, false, false, false, false, false, false, false, false] rfl rfl (any_of HT_.out (by kernel_rfl)) (fun _ _ _ h => h) (Or.inl ⟨by rfl, ?_⟩) ?_ ?_
          rotate_left
          · intro w'
            go_simp
            with_reducible rfl
          rotate_left
          · simp only [Act.put, List.setIfInBounds_toArray, List.set_cons_zero, List.set_cons_succ, i64_w, i32_w]
            rfl
          refine pure_ (i := 4) (N := some 90) (v := ?_) (a' := ?_) #[true, true, true, true, true, false, false, false, false, false, false, false, false, false, false, false] rfl rfl (any_of HT_.out (by kernel_rfl)) (fun _ _ _ h => h) (Or.inl ⟨by rfl, ?_⟩) ?_ ?_
          rotate_left
          · intro w'
            go_simp
            with_reducible rfl
          rotate_left
          · simp only [Act.put, List.setIfInBounds_toArray, List.set_cons_zero, List.set_cons_succ, i64_w, i32_w]
            rfl
          refine pure_ (i := 5) (N := some 91) (v := ?_) (a' := ?_) #[true, true, true, true, true, true, false, false, false, false, false, false, false, false, false, false] rfl rfl (any_of HT_.out (by kernel_rfl)) (fun _ _ _ h => h) (Or.inl ⟨by rfl, ?_⟩) ?_ ?_
          rotate_left
          · intro w'
            go_simp
            with_reducible rfl
          rotate_left
          · simp only [Act.put, List.setIfInBounds_toArray, List.set_cons_zero, List.set_cons_succ, i64_w, i32_w]
            rfl
          refine pure_ (i := 6) (N := some 92) (v := ?_) (a' := ?_) #[true, true, true, true, true, true, true, false, false, false, false, false, false, false, false, false] rfl rfl (any_of HT_.out (by kernel_rfl)) (fun _ _ _ h => h) (Or.inl ⟨by rfl, ?_⟩) ?_ ?_
          rotate_left
          · intro w'
            go_simp
            with_reducible rfl
          rotate_left
          · simp only [Act.put, List.setIfInBounds_toArray, List.set_cons_zero, List.set_cons_succ, i64_w, i32_w]
            rfl
          refine pure_ (i := 7) (N := some 93) (v := ?_) (a' := ?_) #[true, true, true, true, true, true, true, true, false, false, false, false, false, false, false, false] rfl rfl (any_of HT_.out (by kernel_rfl)) (fun _ _ _ h => h) (Or.inl ⟨by rfl, ?_⟩) ?_ ?_
          rotate_left
          · intro w'
            go_simp
            with_reducible rfl
          rotate_left
          · simp only [Act.put, List.setIfInBounds_toArray, List.set_cons_zero, List.set_cons_succ, i64_w, i32_w]
            rfl
          refine pure_ (i := 9) (N := some 95) (v := ?_) (a' := ?_) #[true, true, true, true, true, true, true, true, false, true, false, false, false, false, false, false] rfl rfl (any_of HT_.out (by kernel_rfl)) (fun _ _ _ h => h) (Or.inl ⟨by rfl, ?_⟩) ?_ ?_
          rotate_left
          · intro w'
            go_simp
            with_reducible rfl
          rotate_left
          · simp only [Act.put, List.setIfInBounds_toArray, List.set_cons_zero, List.set_cons_succ, i64_w, i32_w]
            rfl
          refine pure_ (i := 10) (N := some 96) (v := ?_) (a' := ?_) #[true, true, true, true, true, true, true, true, false, true, true, false, false, false, false, false] rfl rfl (any_of HT_.out (by kernel_rfl)) (fun _ _ _ h => h) (Or.inl ⟨by rfl, ?_⟩) ?_ ?_
          rotate_left
          · intro w'
            go_simp
            with_reducible rfl
          rotate_left
          · simp only [Act.put, List.setIfInBounds_toArray, List.set_cons_zero, List.set_cons_succ, i64_w, i32_w]
            rfl
          refine pure_ (i := 11) (N := some 97) (v := ?_) (a' := ?_) #[true, true, true, true, true, true, true, true, false, true, true, true, false, false, false, false] rfl rfl (any_of HT_.out (by kernel_rfl)) (fun _ _ _ h => h) (Or.inl ⟨by rfl, ?_⟩) ?_ ?_
          rotate_left
          · intro w'
            go_simp
            with_reducible rfl
          rotate_left
          · simp only [Act.put, List.setIfInBounds_toArray, List.set_cons_zero, List.set_cons_succ, i64_w, i32_w]
            rfl
          refine take_ (i := 8) (N := some 94) (v := ?_) (a' := ?_) #[true, true, true, true, true, true, true, true, true, true, true, true, false, false, false, false] rfl rfl (take_ofW HT_.out HW_.out (by kernel_rfl)) (fun _ _ _ h => h) (Or.inl ⟨by rfl, ?_⟩) hHeld ?_ ?_
          rotate_left
          · rintro w' ⟨s0, s1⟩
            go_simp
            with_reducible rfl
          rotate_left
          · simp only [Act.put, List.setIfInBounds_toArray, List.set_cons_zero, List.set_cons_succ, i64_w, i32_w]
            rfl
          refine take_ (i := 12) (N := some 98) (v := ?_) (a' := ?_) #[true, true, true, true, true, true, true, true, true, true, true, true, true, false, false, false] rfl rfl (take_ofW HT_.out HW_.out (by kernel_rfl)) (fun _ _ _ h => h) (Or.inl ⟨by rfl, ?_⟩) hHeld ?_ ?_
          rotate_left
          · rintro w' ⟨s0, s1⟩
            go_simp
            with_reducible rfl
          rotate_left
          · simp only [Act.put, List.setIfInBounds_toArray, List.set_cons_zero, List.set_cons_succ, i64_w, i32_w]
            rfl
          refine pure_ (i := 13) (N := some 99) (v := ?_) (a' := ?_) #[true, true, true, true, true, true, true, true, true, true, true, true, true, true, false, false] rfl rfl (any_of HT_.out (by kernel_rfl)) (fun _ _ _ h => h) (Or.inl ⟨by rfl, ?_⟩) ?_ ?_
          rotate_left
          · intro w'
            go_simp
            with_reducible rfl
          rotate_left
          · simp only [Act.put, List.setIfInBounds_toArray, List.set_cons_zero, List.set_cons_succ, i64_w, i32_w]
            rfl
          refine pure_ (i := 14) (N := some 100) (v := ?_) (a' := ?_) #[true, true, true, true, true, true, true, true, true, true, true, true, true, true, true, false] rfl rfl (any_of HT_.out (by kernel_rfl)) (fun _ _ _ h => h) (Or.inl ⟨by rfl, ?_⟩) ?_ ?_
          rotate_left
          · intro w'
            go_simp
            with_reducible rfl
          rotate_left
          · simp only [Act.put, List.setIfInBounds_toArray, List.set_cons_zero, List.set_cons_succ, i64_w, i32_w]
            rfl
          refine pure_ (i := 15) (N := some 101) (v := ?_) (a' := ?_) #[true, true, true, true, true, true, true, true, true, true, true, true, true, true, true, true] rfl rfl (any_of HT_.out (by kernel_rfl)) (fun _ _ _ h => h) (Or.inl ⟨by rfl, ?_⟩) ?_ ?_
          rotate_left
          · intro w'
            go_simp
            with_reducible rfl
          rotate_left
          · simp only [Act.put, List.setIfInBounds_toArray, List.set_cons_zero, List.set_cons_succ, i64_w, i32_w]
            rfl
          refine done_ (done_of HT_.out (by kernel_rfl)) ?_
          clear h0 h1 h2 h3 h4 h5 hHeld
          have h0 : wr.drew.cell? ⟨w0.heap.size, 0, none⟩ = some (.string a0) := (blk_cell (blk_below BX1.out (below_drew (below_step HB4.out HB.out))) 0).trans rfl
          have h1 : wr.drew.cell? ⟨w0.heap.size, 1, none⟩ = some (.bool a1) := (blk_cell (blk_below BX1.out (below_drew (below_step HB4.out HB.out))) 1).trans rfl
          have h2 : wr.drew.cell? ⟨w0.heap.size, 2, none⟩ = some (.int .i64 a2) := (blk_cell (blk_below BX1.out (below_drew (below_step HB4.out HB.out))) 2).trans rfl
          have h3 : wr.drew.cell? ⟨w0.heap.size, 3, none⟩ = some (.int .i64 a3) := (blk_cell (blk_below BX1.out (below_drew (below_step HB4.out HB.out))) 3).trans rfl
          have h4 : wr.drew.cell? ⟨w0.heap.size, 4, none⟩ = some (.slice A4 l4.length c4) := (blk_cell (blk_below BX1.out (below_drew (below_step HB4.out HB.out))) 4).trans rfl
          have h5 : wr.drew.cell? ⟨w0.heap.size, 5, none⟩ = some (.slice A5 l5.length c5) := (blk_cell (blk_below BX1.out (below_drew (below_step HB4.out HB.out))) 5).trans rfl
          go_upto_region 19 with (go_at_call 23; refine (rushlightref16_Outs.calls k a0 a1 a2 a3 A4 c4 l4 A5 c5 l5 (n : Int) O _ (Kd.C_below HR4.out (below_step HB1.out (below_step HB4.out (below_drew HB.out)))) HC4.out (Kd.C_below HR5.out (below_step HB1.out (below_step HB4.out (below_drew HB.out)))) HC5.out QO.out).mono ?_; rintro e w16 ⟨vo, rfl, hR, hb⟩; obtain ⟨AL, cL, ev⟩ := Kd.R_slice hR; subst ev; have SL := Aside0.mk hR; have HB16 := Aside0.mk (below_step (below_drew HB.out) hb); have HA16 := Aside0.mk (blk_below HA.out (below_step (below_drew (Below.refl wr.heap.size wr)) hb)); clear hb hR)
          clear h0 h1 h2 h3 h4 h5 g0 g1 hd
          go_loopg [11] O.length (fun kq v11 w' => ∃ kk : Nat, v11 = .int .i64 kk ∧ Aside0 (kq + kk = O.length) ∧ kk ≤ O.length ∧ Aside0 (Below w16.heap.size w16 w'))
          case atStart => exact ⟨0, rfl, ⟨rfl⟩, Nat.zero_le _, ⟨Below.refl _ _⟩⟩
          case round =>
            obtain ⟨kk, rfl, HKk, hkk, HBk⟩ := hrel
            have HB4r := Aside0.mk (below_step HB16.out HBk.out)
            have HAr := Aside0.mk (blk_below HA16.out HBk.out)
            have p3 : (n : Int) < (R.length : Int) := by have := Q4.out; omega
            have g0 : wr.cell? ⟨gR, n, none⟩ = some (.bool rb) := hgR.out wr HB4r.out
            by_cases hkl : kk < O.length
            · cases rb with
              | false =>
                have q1 : (kk : Int) < (O.length : Int) := by omega
                go_wp2
                go_roundg (l5.length - (n + 1))
                case measure => have := HK.out; omega
                case rel => exact ⟨n + 1, by go_num, ⟨by omega⟩, by omega, HB4r, HAr⟩
              | true =>
                obtain ⟨gL, kL, ev, _⟩ := Kd.R_form SL.out (by omega)
                injection ev with ev _ ec
                subst ev; subst ec
                have q0 : (0 : Int) ≤ (kk : Int) := Int.natCast_nonneg _
                have q1 : (kk : Int) < (O.length : Int) := by omega
                obtain ⟨u0, u1, u2⟩ := QT.out O[kk] (List.getElem_mem hkl)
                obtain ⟨tn, htn⟩ := Int.eq_ofNat_of_zero_le u0
                rw [htn] at u1 u2
                have g2 : wr.cell? ⟨gL, kk, none⟩ = some (.int .i64 (tn : Int)) := by
                  have := (Kd.R_celln (enc := Value.int .i64) (h1 := fun _ => rfl) (0 : Int) SL.out (kk : Int) q0 q1).1
                  rw [Int.toNat_natCast] at this
                  have e : rdOf 0 O (kk : Int) = (tn : Int) := by simp [rdOf, hkl, htn]
                  rw [e] at this
                  exact (HBk.out.cell (World.block_lt_of_cell? _ _ this)).trans this
                have hgL : Aside0 (∀ W : World, Below w16.heap.size w16 W → W.cell? ⟨gL, kk, none⟩ = some (.int .i64 (tn : Int))) := ⟨fun W hW => by
                  have := (Kd.R_celln (enc := Value.int .i64) (h1 := fun _ => rfl) (0 : Int) SL.out (kk : Int) q0 q1).1
                  rw [Int.toNat_natCast] at this
                  have e : rdOf 0 O (kk : Int) = (tn : Int) := by simp [rdOf, hkl, htn]
                  rw [e] at this
                  exact (hW.cell (World.block_lt_of_cell? _ _ this)).trans this⟩
                have q2 : (0 : Int) ≤ (tn : Int) := Int.natCast_nonneg _
                have q3 : (tn : Int) < (l5.length : Int) := u1
                have HU := Aside0.mk (u2 rfl)
                clear u0 u1 u2 htn
                go_upto_region 23 with (fail)
                clear g0 g2
                go_loopg [12, 13] B.length (fun kq v12 v13 w' => ∃ j : Nat, v12 = .bool (isBack B (n : Int) (tn : Int) j) ∧ v13 = .int .i64 j ∧ Aside0 (kq + j = B.length) ∧ j ≤ B.length ∧ Aside0 (Below w16.heap.size w16 w'))
                case atStart => exact ⟨0, rfl, rfl, ⟨rfl⟩, Nat.zero_le _, HBk⟩
                case round =>
                  clear HBk HB4r HAr
                  obtain ⟨j, rfl, rfl, HKj, hj, HBk⟩ := hrel
                  have HB4r := Aside0.mk (below_step HB16.out HBk.out)
                  have HAr := Aside0.mk (blk_below HA16.out HBk.out)
                  have g2 : wr.cell? ⟨gL, kk, none⟩ = some (.int .i64 (tn : Int)) := hgL.out wr HBk.out
                  by_cases hjb : j < B.length
                  · obtain ⟨gB, kB, ev⟩ := own_shape SB4.out (by omega)
                    injection ev with ev en ec; clear en
                    subst ev; subst ec
                    have y := round_back SB4.out hjb
                    have g3 := (HB4r.out.cell (World.block_lt_of_cell? _ _ y.1)).trans y.1
                    have g4 := (HB4r.out.cell (World.block_lt_of_cell? _ _ y.2)).trans y.2
                    have p5 : (0 : Int) ≤ (j : Int) := Int.natCast_nonneg _
                    have p6 : (j : Int) < (B.length : Int) := by omega
                    have hst := Aside0.mk (isBack_step (n := (n : Int)) (t := (tn : Int)) hjb)
                    have hq : ∀ w' : World, (Op.equalIn 10000 52 (.agg #[.int .i64 B[j].1, .int .i64 B[j].2]) (.agg #[.int .i64 (n : Int), .int .i64 (tn : Int)])).run Try.prog w' = .ok (B[j].1 == (n : Int) && B[j].2 == (tn : Int)) w' := fun w' => flow_eq52 _ _ _ _ _
                    generalize B[j].1 = xa at *
                    generalize B[j].2 = xb at *
                    generalize (xa == (n : Int) && xb == (tn : Int)) = eb at hq hst
                    clear y
                    generalize isBack B (n : Int) (tn : Int) j = ib at hst ⊢
                    cases ib with
                    | true =>
                      go_upto_region 25 with (fail)
                      refine start_ (n := 15) (S := fun w' => w'.cell? ⟨gB, j * 2, none⟩ = some (.int .i64 xa) ∧ w'.cell? ⟨gB, j * 2 + 1, none⟩ = some (.int .i64 xb) ∧ w'.cell? ⟨gL, kk, none⟩ = some (.int .i64 tn)) (ds := []) #[false, false, false, false, false, false, false, false, false, false, false, false, false, false, false] (by kernel_rfl) rfl rfl ⟨g3, g4, g2⟩ (fun hHeld => ?_)
                      refine with_tabW flow_round25.tab25 flow_round25.bits25 (fun HT_ HW_ => ?_)
                      refine pure_ (i := 0) (N := some 123) (v := ?_) (a' := ?_) #[true, false, false, false, false, false, false, false, false, false, false, false, false, false, false] rfl rfl (any_of HT_.out (by kernel_rfl)) (fun _ _ _ h => h) (Or.inl ⟨by rfl, ?_⟩) ?_ ?_
                      rotate_left
                      · intro w'
                        go_simp
                        with_reducible rfl
                      rotate_left
                      · simp only [Act.put, List.setIfInBounds_toArray, List.set_cons_zero, List.set_cons_succ, i64_w, i32_w]
                        rfl
                      refine pure_ (i := 1) (N := some 124) (v := ?_) (a' := ?_) #[true, true, false, false, false, false, false, false, false, false, false, false, false, false, false] rfl rfl (any_of HT_.out (by kernel_rfl)) (fun _ _ _ h => h) (Or.inl ⟨by rfl, ?_⟩) ?_ ?_
                      rotate_left
                      · intro w'
                        go_simp
                        with_reducible rfl
                      rotate_left
                      · simp only [Act.put, List.setIfInBounds_toArray, List.set_cons_zero, List.set_cons_succ, i64_w, i32_w]
                        rfl
                      refine pure_ (i := 2) (N := some 125) (v := undef) (a' := ?_) #[true, true, true, false, false, false, false, false, false, false, false, false, false, false, false] rfl rfl (any_of HT_.out (by kernel_rfl)) (fun _ _ _ h => h) (Or.inr ⟨by rfl, rfl⟩) ?_ ?_
                      rotate_left
                      · simp only [Act.put, List.setIfInBounds_toArray, List.set_cons_zero, List.set_cons_succ, i64_w, i32_w]
                        rfl
                      refine pure_ (i := 3) (N := some 126) (v := undef) (a' := ?_) #[true, true, true, true, false, false, false, false, false, false, false, false, false, false, false] rfl rfl (any_of HT_.out (by kernel_rfl)) (fun _ _ _ h => h) (Or.inr ⟨by rfl, rfl⟩) ?_ ?_
                      rotate_left
                      · simp only [Act.put, List.setIfInBounds_toArray, List.set_cons_zero, List.set_cons_succ, i64_w, i32_w]
                        rfl
                      refine pure_ (i := 4) (N := some 127) (v := undef) (a' := ?_) #[true, true, true, true, true, false, false, false, false, false, false, false, false, false, false] rfl rfl (any_of HT_.out (by kernel_rfl)) (fun _ _ _ h => h) (Or.inr ⟨by rfl, rfl⟩) ?_ ?_
                      rotate_left
                      · simp only [Act.put, List.setIfInBounds_toArray, List.set_cons_zero, List.set_cons_succ, i64_w, i32_w]
                        rfl
                      refine pure_ (i := 5) (N := some 128) (v := undef) (a' := ?_) #[true, true, true, true, true, true, false, false, false, false, false, false, false, false, false] rfl rfl (any_of HT_.out (by kernel_rfl)) (fun _ _ _ h => h) (Or.inr ⟨by rfl, rfl⟩) ?_ ?_
                      rotate_left
                      · simp only [Act.put, List.setIfInBounds_toArray, List.set_cons_zero, List.set_cons_succ, i64_w, i32_w]
                        rfl
                      refine pure_ (i := 6) (N := some 129) (v := undef) (a' := ?_) #[true, true, true, true, true, true, true, false, false, false, false, false, false, false, false] rfl rfl (any_of HT_.out (by kernel_rfl)) (fun _ _ _ h => h) (Or.inr ⟨by rfl, rfl⟩) ?_ ?_
                      rotate_left
                      · simp only [Act.put, List.setIfInBounds_toArray, List.set_cons_zero, List.set_cons_succ, i64_w, i32_w]
                        rfl
                      refine pure_ (i := 7) (N := some 130) (v := undef) (a' := ?_) #[true, true, true, true, true, true, true, true, false, false, false, false, false, false, false] rfl rfl (any_of HT_.out (by kernel_rfl)) (fun _ _ _ h => h) (Or.inr ⟨by rfl, rfl⟩) ?_ ?_
                      rotate_left
                      · simp only [Act.put, List.setIfInBounds_toArray, List.set_cons_zero, List.set_cons_succ, i64_w, i32_w]
                        rfl
                      refine pure_ (i := 8) (N := some 131) (v := undef) (a' := ?_) #[true, true, true, true, true, true, true, true, true, false, false, false, false, false, false] rfl rfl (any_of HT_.out (by kernel_rfl)) (fun _ _ _ h => h) (Or.inr ⟨by rfl, rfl⟩) ?_ ?_
                      rotate_left
                      · simp only [Act.put, List.setIfInBounds_toArray, List.set_cons_zero, List.set_cons_succ, i64_w, i32_w]
                        rfl
                      refine pure_ (i := 9) (N := some 132) (v := undef) (a' := ?_) #[true, true, true, true, true, true, true, true, true, true, false, false, false, false, false] rfl rfl (any_of HT_.out (by kernel_rfl)) (fun _ _ _ h => h) (Or.inr ⟨by rfl, rfl⟩) ?_ ?_
                      rotate_left
                      · simp only [Act.put, List.setIfInBounds_toArray, List.set_cons_zero, List.set_cons_succ, i64_w, i32_w]
                        rfl
                      refine pure_ (i := 10) (N := some 133) (v := undef) (a' := ?_) #[true, true, true, true, true, true, true, true, true, true, true, false, false, false, false] rfl rfl (any_of HT_.out (by kernel_rfl)) (fun _ _ _ h => h) (Or.inr ⟨by rfl, rfl⟩) ?_ ?_
                      rotate_left
                      · simp only [Act.put, List.setIfInBounds_toArray, List.set_cons_zero, List.set_cons_succ, i64_w, i32_w]
                        rfl
                      refine pure_ (i := 11) (N := some 134) (v := undef) (a' := ?_) #[true, true, true, true, true, true, true, true, true, true, true, true, false, false, false] rfl rfl (any_of HT_.out (by kernel_rfl)) (fun _ _ _ h => h) (Or.inr ⟨by rfl, rfl⟩) ?_ ?_
                      rotate_left
                      · simp only [Act.put, List.setIfInBounds_toArray, List.set_cons_zero, List.set_cons_succ, i64_w, i32_w]
                        rfl
                      refine pure_ (i := 12) (N := some 135) (v := undef) (a' := ?_) #[true, true, true, true, true, true, true, true, true, true, true, true, true, false, false] rfl rfl (any_of HT_.out (by kernel_rfl)) (fun _ _ _ h => h) (Or.inr ⟨by rfl, rfl⟩) ?_ ?_
                      rotate_left
                      · simp only [Act.put, List.setIfInBounds_toArray, List.set_cons_zero, List.set_cons_succ, i64_w, i32_w]
                        rfl
                      refine pure_ (i := 13) (N := some 136) (v := ?_) (a' := ?_) #[true, true, true, true, true, true, true, true, true, true, true, true, true, true, false] rfl rfl (any_of HT_.out (by kernel_rfl)) (fun _ _ _ h => h) (Or.inl ⟨by rfl, ?_⟩) ?_ ?_
                      rotate_left
                      · intro w'
                        go_simp
                        with_reducible rfl
                      rotate_left
                      · simp only [Act.put, List.setIfInBounds_toArray, List.set_cons_zero, List.set_cons_succ, i64_w, i32_w]
                        rfl
                      refine pure_ (i := 14) (N := some 12) (v := ?_) (a' := ?_) #[true, true, true, true, true, true, true, true, true, true, true, true, true, true, true] rfl rfl (any_of HT_.out (by kernel_rfl)) (fun _ _ _ h => h) (Or.inl ⟨by rfl, ?_⟩) ?_ ?_
                      rotate_left
                      · intro w'
                        go_simp
                        with_reducible rfl
                      rotate_left
                      · simp only [Act.put, List.setIfInBounds_toArray, List.set_cons_zero, List.set_cons_succ, i64_w, i32_w]
                        rfl
                      refine done_ (done_of HT_.out (by kernel_rfl)) ?_
                      go_wp2
                      go_roundg (gk - 1)
                      case measure => have := HKj.out; omega
                      case rel => exact ⟨j + 1, by rw [hst.out]; rfl, by go_num, ⟨by have := HKj.out; omega⟩, by omega, ⟨below_drew HBk.out⟩⟩
                    | false =>
                      go_upto_region 25 with (fail)
                      refine start_ (n := 15) (S := fun w' => w'.cell? ⟨gB, j * 2, none⟩ = some (.int .i64 xa) ∧ w'.cell? ⟨gB, j * 2 + 1, none⟩ = some (.int .i64 xb) ∧ w'.cell? ⟨gL, kk, none⟩ = some (.int .i64 tn)) (ds := []) #[false, false, false, false, false, false, false, false, false, false, false, false, false, false, false] (by kernel_rfl) rfl rfl ⟨g3, g4, g2⟩ (fun hHeld => ?_)
                      refine with_tabW flow_round25.tab25 flow_round25.bits25 (fun HT_ HW_ => ?_)
                      refine pure_ (i := 0) (N := some 123) (v := ?_) (a' := ?_) #[true, false, false, false, false, false, false, false, false, false, false, false, false, false, false] rfl rfl (any_of HT_.out (by kernel_rfl)) (fun _ _ _ h => h) (Or.inl ⟨by rfl, ?_⟩) ?_ ?_
                      rotate_left
                      · intro w'
                        go_simp
                        with_reducible rfl
                      rotate_left
                      · simp only [Act.put, List.setIfInBounds_toArray, List.set_cons_zero, List.set_cons_succ, i64_w, i32_w]
                        rfl
                      refine pure_ (i := 1) (N := some 124) (v := ?_) (a' := ?_) #[true, true, false, false, false, false, false, false, false, false, false, false, false, false, false] rfl rfl (any_of HT_.out (by kernel_rfl)) (fun _ _ _ h => h) (Or.inl ⟨by rfl, ?_⟩) ?_ ?_
                      rotate_left
                      · intro w'
                        go_simp
                        with_reducible rfl
                      rotate_left
                      · simp only [Act.put, List.setIfInBounds_toArray, List.set_cons_zero, List.set_cons_succ, i64_w, i32_w]
                        rfl
                      refine pure_ (i := 2) (N := some 125) (v := ?_) (a' := ?_) #[true, true, true, false, false, false, false, false, false, false, false, false, false, false, false] rfl rfl (any_of HT_.out (by kernel_rfl)) (fun _ _ _ h => h) (Or.inl ⟨by rfl, ?_⟩) ?_ ?_
                      rotate_left
                      · intro w'
                        go_simp
                        with_reducible rfl
                      rotate_left
                      · simp only [Act.put, List.setIfInBounds_toArray, List.set_cons_zero, List.set_cons_succ, i64_w, i32_w]
                        rfl
                      refine pure_ (i := 3) (N := some 126) (v := ?_) (a' := ?_) #[true, true, true, true, false, false, false, false, false, false, false, false, false, false, false] rfl rfl (any_of HT_.out (by kernel_rfl)) (fun _ _ _ h => h) (Or.inl ⟨by rfl, ?_⟩) ?_ ?_
                      rotate_left
                      · intro w'
                        go_simp
                        with_reducible rfl
                      rotate_left
                      · simp only [Act.put, List.setIfInBounds_toArray, List.set_cons_zero, List.set_cons_succ, i64_w, i32_w]
                        rfl
                      refine pure_ (i := 4) (N := some 127) (v := ?_) (a' := ?_) #[true, true, true, true, true, false, false, false, false, false, false, false, false, false, false] rfl rfl (any_of HT_.out (by kernel_rfl)) (fun _ _ _ h => h) (Or.inl ⟨by rfl, ?_⟩) ?_ ?_
                      rotate_left
                      · intro w'
                        go_simp
                        with_reducible rfl
                      rotate_left
                      · simp only [Act.put, List.setIfInBounds_toArray, List.set_cons_zero, List.set_cons_succ, i64_w, i32_w]
                        rfl
                      refine pure_ (i := 6) (N := some 129) (v := ?_) (a' := ?_) #[true, true, true, true, true, false, true, false, false, false, false, false, false, false, false] rfl rfl (any_of HT_.out (by kernel_rfl)) (fun _ _ _ h => h) (Or.inl ⟨by rfl, ?_⟩) ?_ ?_
                      rotate_left
                      · intro w'
                        go_simp
                        with_reducible rfl
                      rotate_left
                      · simp only [Act.put, List.setIfInBounds_toArray, List.set_cons_zero, List.set_cons_succ, i64_w, i32_w]
                        rfl
                      refine pure_ (i := 7) (N := some 130) (v := ?_) (a' := ?_) #[true, true, true, true, true, false, true, true, false, false, false, false, false, false, false] rfl rfl (any_of HT_.out (by kernel_rfl)) (fun _ _ _ h => h) (Or.inl ⟨by rfl, ?_⟩) ?_ ?_
                      rotate_left
                      · intro w'
                        go_simp
                        with_reducible rfl
                      rotate_left
                      · simp only [Act.put, List.setIfInBounds_toArray, List.set_cons_zero, List.set_cons_succ, i64_w, i32_w]
                        rfl
                      refine pure_ (i := 8) (N := some 131) (v := ?_) (a' := ?_) #[true, true, true, true, true, false, true, true, true, false, false, false, false, false, false] rfl rfl (any_of HT_.out (by kernel_rfl)) (fun _ _ _ h => h) (Or.inl ⟨by rfl, ?_⟩) ?_ ?_
                      rotate_left
                      · intro w'
                        go_simp
                        with_reducible rfl
                      rotate_left
                      · simp only [Act.put, List.setIfInBounds_toArray, List.set_cons_zero, List.set_cons_succ, i64_w, i32_w]
                        rfl
                      refine pure_ (i := 9) (N := some 132) (v := ?_) (a' := ?_) #[true, true, true, true, true, false, true, true, true, true, false, false, false, false, false] rfl rfl (any_of HT_.out (by kernel_rfl)) (fun _ _ _ h => h) (Or.inl ⟨by rfl, ?_⟩) ?_ ?_
                      rotate_left
                      · intro w'
                        go_simp
                        with_reducible rfl
                      rotate_left
                      · simp only [Act.put, List.setIfInBounds_toArray, List.set_cons_zero, List.set_cons_succ, i64_w, i32_w]
                        rfl
                      refine take_ (i := 5) (N := some 128) (v := ?_) (a' := ?_) #[true, true, true, true, true, true, true, true, true, true, false, false, false, false, false] rfl rfl (take_ofW HT_.out HW_.out (by kernel_rfl)) (fun _ _ _ h => h) (Or.inl ⟨by rfl, ?_⟩) hHeld ?_ ?_
                      rotate_left
                      · rintro w' ⟨s0, s1, s2⟩
                        go_simp
                        with_reducible rfl
                      rotate_left
                      · simp only [Act.put, List.setIfInBounds_toArray, List.set_cons_zero, List.set_cons_succ, i64_w, i32_w]
                        rfl
                      refine take_ (i := 10) (N := some 133) (v := ?_) (a' := ?_) #[true, true, true, true, true, true, true, true, true, true, true, false, false, false, false] rfl rfl (take_ofW HT_.out HW_.out (by kernel_rfl)) (fun _ _ _ h => h) (Or.inl ⟨by rfl, ?_⟩) hHeld ?_ ?_
                      rotate_left
                      · rintro w' ⟨s0, s1, s2⟩
                        go_simp
                        with_reducible rfl
                      rotate_left
                      · simp only [Act.put, List.setIfInBounds_toArray, List.set_cons_zero, List.set_cons_succ, i64_w, i32_w]
                        rfl
                      refine pure_ (i := 11) (N := some 134) (v := ?_) (a' := ?_) #[true, true, true, true, true, true, true, true, true, true, true, true, false, false, false] rfl rfl (any_of HT_.out (by kernel_rfl)) (fun _ _ _ h => h) (Or.inl ⟨by rfl, ?_⟩) ?_ ?_
                      rotate_left
                      · intro w'
                        go_simp
                        with_reducible rfl
                      rotate_left
                      · simp only [Act.put, List.setIfInBounds_toArray, List.set_cons_zero, List.set_cons_succ, i64_w, i32_w]
                        rfl
                      refine pure_ (i := 12) (N := some 135) (v := ?_) (a' := ?_) #[true, true, true, true, true, true, true, true, true, true, true, true, true, false, false] rfl rfl (any_of HT_.out (by kernel_rfl)) (fun _ _ _ h => h) (Or.inl ⟨by rfl, ?_⟩) ?_ ?_
                      rotate_left
                      · intro w'
                        go_simp
                        with_reducible rfl
                      rotate_left
                      · simp only [Act.put, List.setIfInBounds_toArray, List.set_cons_zero, List.set_cons_succ, i64_w, i32_w]
                        rfl
                      refine pure_ (i := 13) (N := some 136) (v := ?_) (a' := ?_) #[true, true, true, true, true, true, true, true, true, true, true, true, true, true, false] rfl rfl (any_of HT_.out (by kernel_rfl)) (fun _ _ _ h => h) (Or.inl ⟨by rfl, ?_⟩) ?_ ?_
                      rotate_left
                      · intro w'
                        go_simp
                        with_reducible rfl
                      rotate_left
                      · simp only [Act.put, List.setIfInBounds_toArray, List.set_cons_zero, List.set_cons_succ, i64_w, i32_w]
                        rfl
                      refine pure_ (i := 14) (N := some 12) (v := ?_) (a' := ?_) #[true, true, true, true, true, true, true, true, true, true, true, true, true, true, true] rfl rfl (any_of HT_.out (by kernel_rfl)) (fun _ _ _ h => h) (Or.inl ⟨by rfl, ?_⟩) ?_ ?_
                      rotate_left
                      · intro w'
                        go_simp
                        with_reducible rfl
                      rotate_left
                      · simp only [Act.put, List.setIfInBounds_toArray, List.set_cons_zero, List.set_cons_succ, i64_w, i32_w]
                        rfl
                      refine done_ (done_of HT_.out (by kernel_rfl)) ?_
                      go_wp2
                      go_roundg (gk - 1)
                      case measure => have := HKj.out; omega
                      case rel => exact ⟨j + 1, by rw [hst.out]; rfl, by go_num, ⟨by have := HKj.out; omega⟩, by omega, ⟨below_drew HBk.out⟩⟩
                  · obtain rfl : j = B.length := by omega
                    have g5 := round_cell HAr.out tn (by have := hAl.out; omega)
                    have g6 : wr.cell? ⟨w4.heap.size, n, none⟩ = some (.int .i64 an) := by rw [← HAN.out]; exact round_cell HAr.out n (by have := hAl.out; omega)
                    have hne := HU.out
                    generalize isBack B (n : Int) (tn : Int) B.length = ib at hne ⊢
                    generalize rd A (tn : Int) = av at g5 hne
                    have q4 : (tn : Int) < (l5.length : Int) := q3
                    go_upto_region 26 with (fail)
                    refine start_ (n := 14) (S := fun w' => w'.cell? ⟨gL, kk, none⟩ = some (.int .i64 tn) ∧ w'.cell? ⟨w4.heap.size, tn, none⟩ = some (.int .i64 av) ∧ w'.cell? ⟨w4.heap.size, n, none⟩ = some (.int .i64 an)) (ds := []) #[false, false, false, false, false, false, false, false, false, false, false, false, false, false] (by kernel_rfl) rfl rfl ⟨g2, g5, g6⟩ (fun hHeld => ?_)
                    refine with_tabW flow_round26.tab26 flow_round26.bits26 (fun HT_ HW_ => ?_)
                    refine pure_ (i := 0) (N := some 137) (v := ?_) (a' := ?_) #[true, false, false, false, false, false, false, false, false, false, false, false, false, false] rfl rfl (any_of HT_.out (by kernel_rfl)) (fun _ _ _ h => h) (Or.inl ⟨by rfl, ?_⟩) ?_ ?_
                    rotate_left
                    · intro w'
                      go_simp
                      with_reducible rfl
                    rotate_left
                    · simp only [Act.put, List.setIfInBounds_toArray, List.set_cons_zero, List.set_cons_succ, i64_w, i32_w]
                      rfl
                    refine pure_ (i := 1) (N := some 138) (v := ?_) (a' := ?_) #[true, true, false, false, false, false, false, false, false, false, false, false, false, false] rfl rfl (any_of HT_.out (by kernel_rfl)) (fun _ _ _ h => h) (Or.inl ⟨by rfl, ?_⟩) ?_ ?_
                    rotate_left
                    · intro w'
                      go_simp
                      with_reducible rfl
                    rotate_left
                    · simp only [Act.put, List.setIfInBounds_toArray, List.set_cons_zero, List.set_cons_succ, i64_w, i32_w]
                      rfl
                    refine pure_ (i := 2) (N := some 139) (v := ?_) (a' := ?_) #[true, true, true, false, false, false, false, false, false, false, false, false, false, false] rfl rfl (any_of HT_.out (by kernel_rfl)) (fun _ _ _ h => h) (Or.inl ⟨by rfl, ?_⟩) ?_ ?_
                    rotate_left
                    · intro w'
                      go_simp
                      with_reducible rfl
                    rotate_left
                    · simp only [Act.put, List.setIfInBounds_toArray, List.set_cons_zero, List.set_cons_succ, i64_w, i32_w]
                      rfl
                    refine pure_ (i := 3) (N := some 140) (v := ?_) (a' := ?_) #[true, true, true, true, false, false, false, false, false, false, false, false, false, false] rfl rfl (any_of HT_.out (by kernel_rfl)) (fun _ _ _ h => h) (Or.inl ⟨by rfl, ?_⟩) ?_ ?_
                    rotate_left
                    · intro w'
                      go_simp
                      with_reducible rfl
                    rotate_left
                    · simp only [Act.put, List.setIfInBounds_toArray, List.set_cons_zero, List.set_cons_succ, i64_w, i32_w]
                      rfl
                    refine pure_ (i := 4) (N := some 141) (v := ?_) (a' := ?_) #[true, true, true, true, true, false, false, false, false, false, false, false, false, false] rfl rfl (any_of HT_.out (by kernel_rfl)) (fun _ _ _ h => h) (Or.inl ⟨by rfl, ?_⟩) ?_ ?_
                    rotate_left
                    · intro w'
                      go_simp
                      with_reducible rfl
                    rotate_left
                    · simp only [Act.put, List.setIfInBounds_toArray, List.set_cons_zero, List.set_cons_succ, i64_w, i32_w]
                      rfl
                    refine pure_ (i := 8) (N := some 145) (v := ?_) (a' := ?_) #[true, true, true, true, true, false, false, false, true, false, false, false, false, false] rfl rfl (any_of HT_.out (by kernel_rfl)) (fun _ _ _ h => h) (Or.inl ⟨by rfl, ?_⟩) ?_ ?_
                    rotate_left
                    · intro w'
                      go_simp
                      with_reducible rfl
                    rotate_left
                    · simp only [Act.put, List.setIfInBounds_toArray, List.set_cons_zero, List.set_cons_succ, i64_w, i32_w]
                      rfl
                    refine pure_ (i := 9) (N := some 146) (v := ?_) (a' := ?_) #[true, true, true, true, true, false, false, false, true, true, false, false, false, false] rfl rfl (any_of HT_.out (by kernel_rfl)) (fun _ _ _ h => h) (Or.inl ⟨by rfl, ?_⟩) ?_ ?_
                    rotate_left
                    · intro w'
                      go_simp
                      with_reducible rfl
                    rotate_left
                    · simp only [Act.put, List.setIfInBounds_toArray, List.set_cons_zero, List.set_cons_succ, i64_w, i32_w]
                      rfl
                    refine pure_ (i := 10) (N := some 147) (v := ?_) (a' := ?_) #[true, true, true, true, true, false, false, false, true, true, true, false, false, false] rfl rfl (any_of HT_.out (by kernel_rfl)) (fun _ _ _ h => h) (Or.inl ⟨by rfl, ?_⟩) ?_ ?_
                    rotate_left
                    · intro w'
                      go_simp
                      with_reducible rfl
                    rotate_left
                    · simp only [Act.put, List.setIfInBounds_toArray, List.set_cons_zero, List.set_cons_succ, i64_w, i32_w]
                      rfl
                    refine take_ (i := 5) (N := some 142) (v := ?_) (a' := ?_) #[true, true, true, true, true, true, false, false, true, true, true, false, false, false] rfl rfl (take_ofW HT_.out HW_.out (by kernel_rfl)) (fun _ _ _ h => h) (Or.inl ⟨by rfl, ?_⟩) hHeld ?_ ?_
                    rotate_left
                    · rintro w' ⟨s0, s1, s2⟩
                      go_simp
                      with_reducible rfl
                    rotate_left
                    · simp only [Act.put, List.setIfInBounds_toArray, List.set_cons_zero, List.set_cons_succ, i64_w, i32_w]
                      rfl
                    refine pure_ (i := 6) (N := some 143) (v := ?_) (a' := ?_) #[true, true, true, true, true, true, true, false, true, true, true, false, false, false] rfl rfl (any_of HT_.out (by kernel_rfl)) (fun _ _ _ h => h) (Or.inl ⟨by rfl, ?_⟩) ?_ ?_
                    rotate_left
                    · intro w'
                      go_simp
                      with_reducible rfl
                    rotate_left
                    · simp only [Act.put, List.setIfInBounds_toArray, List.set_cons_zero, List.set_cons_succ, i64_w, i32_w]
                      rfl
                    refine take_ (i := 7) (N := some 144) (v := ?_) (a' := ?_) #[true, true, true, true, true, true, true, true, true, true, true, false, false, false] rfl rfl (take_ofW HT_.out HW_.out (by kernel_rfl)) (fun _ _ _ h => h) (Or.inl ⟨by rfl, ?_⟩) hHeld ?_ ?_
                    rotate_left
                    · rintro w' ⟨s0, s1, s2⟩
                      go_simp
                      with_reducible rfl
                    rotate_left
                    · simp only [Act.put, List.setIfInBounds_toArray, List.set_cons_zero, List.set_cons_succ, i64_w, i32_w]
                      rfl
                    refine take_ (i := 11) (N := some 148) (v := ?_) (a' := ?_) #[true, true, true, true, true, true, true, true, true, true, true, true, false, false] rfl rfl (take_ofW HT_.out HW_.out (by kernel_rfl)) (fun _ _ _ h => h) (Or.inl ⟨by rfl, ?_⟩) hHeld ?_ ?_
                    rotate_left
                    · rintro w' ⟨s0, s1, s2⟩
                      go_simp
                      with_reducible rfl
                    rotate_left
                    · simp only [Act.put, List.setIfInBounds_toArray, List.set_cons_zero, List.set_cons_succ, i64_w, i32_w]
                      rfl
                    refine pure_ (i := 12) (N := some 149) (v := ?_) (a' := ?_) #[true, true, true, true, true, true, true, true, true, true, true, true, true, false] rfl rfl (any_of HT_.out (by kernel_rfl)) (fun _ _ _ h => h) (Or.inl ⟨by rfl, ?_⟩) ?_ ?_
                    rotate_left
                    · intro w'
                      go_simp
                      with_reducible rfl
                    rotate_left
                    · simp only [Act.put, List.setIfInBounds_toArray, List.set_cons_zero, List.set_cons_succ, i64_w, i32_w]
                      rfl
                    refine pure_ (i := 13) (N := some 150) (v := ?_) (a' := ?_) #[true, true, true, true, true, true, true, true, true, true, true, true, true, true] rfl rfl (any_of HT_.out (by kernel_rfl)) (fun _ _ _ h => h) (Or.inl ⟨by rfl, ?_⟩) ?_ ?_
                    rotate_left
                    · intro w'
                      go_simp
                      with_reducible rfl
                    rotate_left
                    · simp only [Act.put, List.setIfInBounds_toArray, List.set_cons_zero, List.set_cons_succ, i64_w, i32_w]
                      rfl
                    refine done_ (done_of HT_.out (by kernel_rfl)) ?_
                    go_wp2
                    go_roundg (O.length - (kk + 1))
                    case measure => have := HKk.out; omega
                    case rel => exact ⟨kk + 1, by go_num, ⟨by omega⟩, by omega, ⟨below_drew HBk.out⟩⟩
            · obtain rfl : kk = O.length := by omega
              go_wp2
              go_roundg (l5.length - (n + 1))
              case measure => have := HK.out; omega
              case rel => exact ⟨n + 1, by go_num, ⟨by omega⟩, by omega, HB4r, HAr⟩
        · obtain rfl : n = l5.length := by omega
          go_wp2_with (go_at_call 17; refine (flow_awake.calls _).mono ?_; rintro e w30 ⟨rfl, hb⟩; have HB30 := Aside0.mk (below_step HB1.out (below_step HB4.out (below_step HB.out hb))); clear hb)
          go_ret
          exact ⟨rfl, HB30.out⟩
end Go.Proofs.Ytppanpboejpmjaa.Tr
