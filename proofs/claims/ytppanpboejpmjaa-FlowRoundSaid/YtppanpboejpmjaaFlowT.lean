/- FlowT: functions of the program walked by hand, and what they come to. -/
import Derived.Test.YtppanpboejpmjaaProg
import Derived.Below
import Derived.Deep.Draws
import Derived.Deep.AppendLies
import Derived.Maps.AppendAt
import Derived.OwnWalk
import Derived.Laws.BytesArg
import Derived.Laws.MakeOwn
import Derived.Laws.OwnMore
import Derived.Deep.OwnRows
import Derived.Tactics
import Derived.Lib.ConvBytes
import Derived.Laws.Slices
import Derived.WalkKit
import Derived.KernelRfl
import Derived.RowKit3
import Derived.Deep.LoopGhost
import Derived.Deep.QuietTactic
import Derived.BigQuiet
import Derived.WideLaws
import Derived.Deep.DeepCutAuto
import Derived.Deep.CutBlock
import Derived.Deep.RegionHeld3
import Derived.Laws.Rows
import Derived.Lib.AppendStr
import Derived.ArgAppend
import Derived.Laws.IdiomCopy
import Derived.OrdersHeld
import Derived.Laws.BitsLemmas
import Derived.RowKit
import Derived.Shelf.SlicesE.DeleteFunc
import Derived.Test.YtppanpboejpmjaaWWords
import Derived.Test.YtppanpboejpmjaaWLast
import Derived.Test.YtppanpboejpmjaaWTab
import Derived.Test.YtppanpboejpmjaaWFour
import Derived.Test.YtppanpboejpmjaaWQPut
import Derived.Test.YtppanpboejpmjaaWApart
import Derived.Test.YtppanpboejpmjaaWArr
import Derived.Test.YtppanpboejpmjaaWZeros
import Derived.Test.YtppanpboejpmjaaWFoot
import Derived.Test.YtppanpboejpmjaaWKept
import Derived.Test.YtppanpboejpmjaaWShare
import Derived.Test.YtppanpboejpmjaaWN
import Derived.Test.YtppanpboejpmjaaWFootNe
import Derived.Test.YtppanpboejpmjaaWAt
import Derived.Test.YtppanpboejpmjaaWEqStruct
import Derived.Test.YtppanpboejpmjaaWRepsOne
import Derived.Test.YtppanpboejpmjaaWInv
import Derived.Test.YtppanpboejpmjaaWInvWords
import Derived.Test.YtppanpboejpmjaaWGuard
import Derived.Test.YtppanpboejpmjaaWNEv
import Derived.Test.YtppanpboejpmjaaWMore
import Derived.Test.YtppanpboejpmjaaTr0
import Derived.Test.YtppanpboejpmjaaFlowS
import Derived.IntWalk
import Derived.BigRegion
import Derived.Deep.RegionLawGrows
import Derived.Deep.OwnRows
import Derived.Laws.OwnMore
import Derived.Maps.AppendAt
import Derived.BigQuiet
import Derived.Outline
set_option linter.all false
namespace Go.Proofs.Ytppanpboejpmjaa.Tr
open Go.RowKit Go.Proofs.YtppanpboejpmjaaW.PrintWords Go.Proofs.YtppanpboejpmjaaW.PrintLast Go.Proofs.YtppanpboejpmjaaW.PrintMore
set_option linter.unusedVariables false
set_option maxHeartbeats 8000000 in
set_option maxRecDepth 100000 in
theorem ref_into.calls (a0 : ByteArray) (a1 : Bool) (a2 a3 : Int) (A4 : Option Addr) (c4 : Nat) (l4 : List S76) (A5 : Option Addr) (c5 : Nat) (l5 : List S45) (w0 : World) (hr4 : Kd.C k76 w0 A4 l4.length l4) (hc4 : l4.length ≤ c4) (hr5 : Kd.C k45 w0 A5 l5.length l5) (hc5 : l5.length ≤ c5) (wb sb : Nat) :
    ∀ (k : Nat) (st left : List Int) (back : List (Int × Int)) (r : List Int × List Int × List (Int × Int)) (n : Int) (w : World) (vo vb : Value) (hst : rf_St w0 w wb sb st vo left vb back) (h : ref_into.f a0 a1 a2 a3 l4 l5 k st left back n = some r),
      Calls Try.prog 56 #[.pointer (some ⟨wb, 0, none⟩), .agg #[.string a0, .bool a1, .int .i64 a2, .int .i64 a3, .slice A4 l4.length c4, .slice A5 l5.length c5], .int .i64 n] w fun e w' => e = .returned (.tuple #[]) ∧ ∃ vo' vb', rf_St w0 w' wb sb r.1 vo' r.2.1 vb' r.2.2 ∧ Kept w w' (rf_Turns wb sb vo vb) ∧ rf_Grown w vo vo' ∧ rf_Grown w vb vb' := by
  intro k
  induction k with
  | zero => intro st left back r n w vo vb hst h; exact absurd h (by simp [ref_into.f])
  | succ k ih =>
    intro st left back r n w vo vb hst h
    have hu61 := Try.underlying61
    have hu31 := Try.underlying31
    have hu46 := Try.underlying46
    have hu48 := Try.underlying48
    have hu52 := Try.underlying52
    have HST := Aside0.mk hst
    have HR4 := Aside0.mk hr4
    have HR5 := Aside0.mk hr5
    have HC4 := Aside0.mk hc4
    have HC5 := Aside0.mk hc5
    have IH := Aside0.mk ih
    simp only [ref_into.f] at h
    by_cases c1 : 0 ≤ n ∧ n < (st.length : Int)
    · rw [if_pos c1] at h
      obtain ⟨o, ho, h⟩ := Option.bind_eq_some_iff.1 h
      obtain ⟨x, hx, h⟩ := Option.bind_eq_some_iff.1 h
      obtain ⟨nn, rfl⟩ := Int.eq_ofNat_of_zero_le c1.1
      rw [Int.toNat_natCast] at hx h
      by_cases c2 : (nn : Int) < (x.1.length : Int) ∧ x.2.1.length < 4000000000000
      · rw [if_pos c2] at h
        obtain rfl := Option.some.inj h
        have HO := Aside0.mk ho
        have HX := Aside0.mk hx
        have C2 := Aside0.mk c2
        have hnn : nn < st.length := by have := c1.2; omega
        have q1 : (0 : Int) ≤ (nn : Int) := Int.natCast_nonneg _
        have q2 : (nn : Int) < (st.length : Int) := c1.2
        have hsb : sb ≠ w.heap.size := Nat.ne_of_lt (blk_lt hst.d)
        have f6 : w.cell? ⟨wb, 0, none⟩ = some (.slice (some ⟨sb, 0, none⟩) st.length st.length) := (blk_cell hst.s 0).trans rfl
        have g1 : w.cell? ⟨sb, nn, none⟩ = some (.int .i64 (st.getD nn 0)) := (blk_cell hst.d nn).trans (by simp [nums]; rw [List.getElem?_eq_getElem hnn]; rfl)
        have z1 := blk_frozen hst.d nn
        have nwb := blk_lt hst.s
        have nsb := blk_lt hst.d
        clear hst hr4 hc4 hr5 hc5 ho hx h c1 c2 ih
        go_enter Try.func56, Try.ntmps56
        go_upto_region 2 with (fail)
        obtain ⟨w1, e1⟩ : ∃ w1, w1 = (w.setCell ⟨sb, nn, none⟩ (.int .i64 1)).alloc (.cells #[.string a0, .bool a1, .int .i64 a2, .int .i64 a3, .slice A4 l4.length c4, .slice A5 l5.length c5] 31) := ⟨_, rfl⟩
        rw [← e1]
        have S1 := Aside0.mk (show rf_St w0 w1 wb sb (st.set nn 1) vo left vb back from by rw [e1]; exact (HST.out.mark nn 1).step (below_alloc (Below.refl _ _) _))
        have B1 := Aside0.mk (show w1.heap[w.heap.size]? = some (.cells #[.string a0, .bool a1, .int .i64 a2, .int .i64 a3, .slice A4 l4.length c4, .slice A5 l5.length c5] 31 (0, 0)) from by
          rw [e1]
          have h := blk_new (w.setCell ⟨sb, nn, none⟩ (.int .i64 1)) (.cells #[.string a0, .bool a1, .int .i64 a2, .int .i64 a3, .slice A4 l4.length c4, .slice A5 l5.length c5] 31)
          rw [show (w.setCell ⟨sb, nn, none⟩ (.int .i64 1)).heap.size = w.heap.size by simp [World.setCell]] at h
          exact h)
        have K1 := Aside0.mk (show Kept w w1 (rf_Turns wb sb vo vb) from by
          rw [e1]
          exact (Kept.of_grown (grown_set w sb nn _) (Kept.refl w _) (fun k e => .inl (.inr (.inl (by injection e with e; exact e.symm))))).then_ (Kept.of_below (below_alloc (Below.refl _ _) _) (fun _ => False)) (fun k hk => hk.elim))
        clear e1 f6 g1 z1 q2
        have b0 : w1.cell? ⟨w.heap.size, 0, none⟩ = some (.string a0) := (blk_cell B1.out 0).trans rfl
        have b1 : w1.cell? ⟨w.heap.size, 1, none⟩ = some (.bool a1) := (blk_cell B1.out 1).trans rfl
        have b2 : w1.cell? ⟨w.heap.size, 2, none⟩ = some (.int .i64 a2) := (blk_cell B1.out 2).trans rfl
        have b3 : w1.cell? ⟨w.heap.size, 3, none⟩ = some (.int .i64 a3) := (blk_cell B1.out 3).trans rfl
        have b4 : w1.cell? ⟨w.heap.size, 4, none⟩ = some (.slice A4 l4.length c4) := (blk_cell B1.out 4).trans rfl
        have b5 : w1.cell? ⟨w.heap.size, 5, none⟩ = some (.slice A5 l5.length c5) := (blk_cell B1.out 5).trans rfl
        go_wp2_with (go_at_call 23; refine (rushlightref16_Outs.calls k a0 a1 a2 a3 A4 c4 l4 A5 c5 l5 (nn : Int) o _ (Kd.C_below HR4.out S1.out.below) HC4.out (Kd.C_below HR5.out S1.out.below) HC5.out HO.out).mono ?_; rintro e w2 ⟨v1, rfl, hR, hb⟩; have R2 := Aside0.mk (flow_Row.of_R2 S1.out hR); have S2 := Aside0.mk (S1.out.step hb); have B2 := Aside0.mk (blk_below B1.out hb); have K2 := Aside0.mk (K1.out.then_ (Kept.of_below hb (fun _ => False)) (fun k hk => hk.elim)); obtain ⟨A1, c1, ev1, hlc, hcb, _⟩ := R2.out; subst ev1; clear hR hb)
        clear b0 b1 b2 b3 b4 b5
        go_loopg [7] o.length (fun kq v7 w' => ∃ (i : Nat) (st left : List Int) (back : List (Int × Int)) (vo1 vb1 : Value), v7 = .int .i64 i ∧ Aside0 (kq + i = o.length) ∧ i ≤ o.length ∧ Aside0 (rf_St w0 w' wb sb st vo1 left vb1 back) ∧ Aside0 (flow_Row w' sb vo1 (.slice A1 o.length c1) o) ∧ Aside0 (w'.heap[w.heap.size]? = some (.cells #[.string a0, .bool a1, .int .i64 a2, .int .i64 a3, .slice A4 l4.length c4, .slice A5 l5.length c5] 31 (0, 0))) ∧ Aside0 (Kept w w' (rf_Turns wb sb vo vb)) ∧ Aside0 (rf_Grown w vo vo1) ∧ Aside0 (rf_Grown w vb vb1) ∧ Aside0 (ref_into.l (ref_into.f a0 a1 a2 a3 l4 l5 k) nn (o.drop i) st left back = some x))
        case atStart => exact ⟨0, _, _, _, _, _, rfl, ⟨rfl⟩, by omega, S2, R2, B2, K2, ⟨.inl rfl⟩, ⟨.inl rfl⟩, HX⟩
        case round =>
          clear S2 R2 B2 K2 HX S1 B1 K1
          obtain ⟨i, st, left, back, vo1, vb1, rfl, HK, hi, HS, HR, HB, HKP, HGO, HGB, HA⟩ := hrel
          by_cases hlt : i < o.length
          · have H := HA.out
            rw [List.drop_eq_getElem_cons hlt] at H
            simp only [ref_into.l] at H
            obtain ⟨tv, etv⟩ : ∃ tv, tv = o[i] := ⟨_, rfl⟩
            rw [← etv] at H
            by_cases c1 : 0 ≤ tv ∧ tv < (st.length : Int)
            · rw [if_pos c1] at H
              obtain ⟨tn, etn⟩ := Int.eq_ofNat_of_zero_le c1.1
              subst etn
              have htn : tn < st.length := by have := c1.2; omega
              obtain ⟨A, c, eA, h1, h2, ⟨_, h3⟩ | ⟨g, off, cur, rfl, e2, e3, e4, e5⟩⟩ := HR.out
              · exact absurd hlt (by rw [h3]; simp)
              · injection eA with eA _ ec
                subst eA
                have y0 : wr.cell? ⟨g, off + i, none⟩ = some (.int .i64 tn) := (blk_cell e2 _).trans (by rw [e3 i hlt, etv])
                have ETV := Aside0.mk etv
                clear etv
                have H1 := Aside0.mk H
                have f6 : wr.cell? ⟨wb, 0, none⟩ = some (.slice (some ⟨sb, 0, none⟩) st.length st.length) := (blk_cell HS.out.s 0).trans rfl
                have g1 : wr.cell? ⟨sb, tn, none⟩ = some (.int .i64 (rd st (tn : Int))) := (blk_cell HS.out.d tn).trans (by simp [nums, rd]; rw [List.getElem?_eq_getElem htn]; rfl)
                have q1 : (0 : Int) ≤ (i : Int) := Int.natCast_nonneg _
                have q2 : (i : Int) < (o.length : Int) := by omega
                have q3 : (0 : Int) ≤ (tn : Int) := Int.natCast_nonneg _
                have q4 : (tn : Int) < (st.length : Int) := by omega
                have s1 : (i : Int).toNat = i := Int.toNat_natCast _
                have s2 : (tn : Int).toNat = tn := Int.toNat_natCast _
                have E2 := Aside0.mk e2
                clear H e2 e3 e4 e5 c1 h1 h2 ec
                by_cases c2 : rd st (tn : Int) = 1
                · have b2 : (rd st (tn : Int) == 1) = true := beq_iff_eq.mpr c2
                  have b3 : (rd st (tn : Int) == 0) = false := beq_eq_false_iff_ne.mpr (by omega)
                  have H2 := H1.out
                  rw [if_pos c2] at H2
                  by_cases c3 : back.length < 4000000000000
                  · rw [if_pos c3] at H2
                    go_wp2
                    go_quiet (fail)
                    go_upto_region 7 with (fail)
                    obtain ⟨w3, e3'⟩ : ∃ w3, w3 = wr.drewN nq := ⟨_, rfl⟩
                    rw [← e3']
                    have S3 := Aside0.mk (show rf_St w0 w3 wb sb st vo1 left vb1 back from by rw [e3']; exact HS.out.step (pw_below_drewN (Below.refl _ _) _))
                    have K3 := Aside0.mk (show Kept w w3 (rf_Turns wb sb vo vb) from by rw [e3']; exact HKP.out)
                    have R3 := Aside0.mk (show flow_Row w3 sb vo1 (.slice (some ⟨g, off, none⟩) o.length c1) o from by rw [e3']; exact HR.out)
                    have B3 := Aside0.mk (show w3.heap[w.heap.size]? = some (.cells #[.string a0, .bool a1, .int .i64 a2, .int .i64 a3, .slice A4 l4.length c4, .slice A5 l5.length c5] 31 (0, 0)) from by rw [e3']; exact HB.out)
                    have y1 : w3.cell? ⟨g, off + i, none⟩ = some (.int .i64 tn) := by rw [e3']; exact y0
                    clear e3' y0 f6 g1
                    have f8 : w3.cell? ⟨wb, 2, none⟩ = some vb1 := (blk_cell S3.out.s 2).trans rfl
                    have f8a : ∀ o, (w3.alloc o).cell? ⟨wb, 2, none⟩ = some vb1 := fun o => (blk_cell (blk_alloc S3.out.s _) 2).trans rfl
                    have f8b : w3.drew.cell? ⟨wb, 2, none⟩ = some vb1 := f8
                    have f8c : ∀ o, (w3.alloc o).drew.cell? ⟨wb, 2, none⟩ = some vb1 := f8a
                    have y1a : ∀ o, (w3.alloc o).cell? ⟨g, off + i, none⟩ = some (.int .i64 tn) := fun o => Lib.cell?_alloc_some o y1
                    have y1b : w3.drew.cell? ⟨g, off + i, none⟩ = some (.int .i64 tn) := y1
                    have z7 := blk_frozen S3.out.s 2
                    have nwb3 := blk_lt S3.out.s
                    go_region_law (first | (refine step_append_cells (w0 := w0) (W := w3.drew) w0.heap.size rfl (.tmp 38) (.tmp 45) 48 52 (.agg #[.int .i64 0, .int .i64 0]) 2 16 rfl hu48 flow_info52 rfl (by decide) (by decide) vb1 back.length (back.flatMap fun x : Int × Int => [.int .i64 x.1, .int .i64 x.2]) [.int .i64 nn, .int .i64 tn] rfl rfl rfl (by intro u hu; simp at hu; rcases hu with rfl | rfl <;> rfl) S3.out.b (below_drew S3.out.below) S3.out.below.size (by omega) ?_; intro v1 w6 hown hB4 hg40 hat0; obtain ⟨ob, cap4, ev4⟩ := own_shape hown (Nat.succ_pos _); subst ev4; have hg4 : w3.grownBy w6 vb1.ownBlock := ⟨hg40.os, hg40.tape, hg40.output, hg40.size, hg40.block⟩; have hat : rf_Grown w3 vb1 (.slice (some ⟨ob, 0, none⟩) (back.length + 1) cap4) := hat0; have f9 : w6.cell? ⟨wb, 2, none⟩ = some vb1 := (blk_cell (blk_other S3.out.s hg4 (fun he => own_ne_type S3.out.b S3.out.s (by decide) wb he.symm rfl)) 2).trans rfl; have z9 : w6.frozen? ⟨wb, 2, none⟩ = false := blk_frozen (blk_other S3.out.s hg4 (fun he => own_ne_type S3.out.b S3.out.s (by decide) wb he.symm rfl)) 2; have S6 : Aside0 (rf_St w0 (w6.setCell ⟨wb, 2, none⟩ (.slice (some ⟨ob, 0, none⟩) (back.length + 1) cap4)) wb sb st vo1 left (.slice (some ⟨ob, 0, none⟩) (back.length + 1) cap4) (back ++ [((nn : Int), (tn : Int))])) := ⟨S3.out.back (nn : Int) (tn : Int) hown hg4 hB4⟩; have KK : Kept w3 (w6.setCell ⟨wb, 2, none⟩ (.slice (some ⟨ob, 0, none⟩) (back.length + 1) cap4)) (rf_Turns wb sb vo1 vb1) := Kept.of_grown (grown_set w6 wb 2 _) (Kept.of_grown hg4 (Kept.refl w3 _) (fun k e => .inl (.inr (.inr (.inr e))))) (fun k e => .inl (.inl (by injection e with e; exact e.symm))); have K6 : Aside0 (Kept w (w6.setCell ⟨wb, 2, none⟩ (.slice (some ⟨ob, 0, none⟩) (back.length + 1) cap4)) (rf_Turns wb sb vo vb)) := ⟨rf_Turns.then_ K3.out HGO.out HGB.out KK⟩; have R6 : Aside0 (flow_Row (w6.setCell ⟨wb, 2, none⟩ (.slice (some ⟨ob, 0, none⟩) (back.length + 1) cap4)) sb vo1 (.slice (some ⟨g, off, none⟩) o.length c1) o) := ⟨flow_Row.kept S3.out R3.out KK (.inl rfl)⟩; have B6 : Aside0 ((w6.setCell ⟨wb, 2, none⟩ (.slice (some ⟨ob, 0, none⟩) (back.length + 1) cap4)).heap[w.heap.size]? = some (.cells #[.string a0, .bool a1, .int .i64 a2, .int .i64 a3, .slice A4 l4.length c4, .slice A5 l5.length c5] 31 (0, 0))) := ⟨blk_kept S3.out B3.out KK (by decide) (by decide) (by decide)⟩; have GB6 : Aside0 (rf_Grown w vb (.slice (some ⟨ob, 0, none⟩) (back.length + 1) cap4)) := ⟨HGB.out.trans hat K3.out.1⟩; have y2 : (w6.setCell ⟨wb, 2, none⟩ (.slice (some ⟨ob, 0, none⟩) (back.length + 1) cap4)).cell? ⟨g, off + i, none⟩ = some (.int .i64 tn) := (flow_Row.at R6.out i hlt).trans (by rw [← ETV.out]); have f10 : (w6.setCell ⟨wb, 2, none⟩ (.slice (some ⟨ob, 0, none⟩) (back.length + 1) cap4)).cell? ⟨wb, 0, none⟩ = some (.slice (some ⟨sb, 0, none⟩) st.length st.length) := (blk_cell S6.out.s 0).trans rfl; have g10 : (w6.setCell ⟨wb, 2, none⟩ (.slice (some ⟨ob, 0, none⟩) (back.length + 1) cap4)).cell? ⟨sb, tn, none⟩ = some (.int .i64 (rd st (tn : Int))) := (blk_cell S6.out.d tn).trans (by simp [nums, rd]; rw [List.getElem?_eq_getElem htn]; rfl); clear hown hB4 hg4 hg40 hat hat0 KK))
                    all_goals (
                      go_wp2
                      go_quiet (fail)
                      go_wp2
                      go_roundg (gk - 1)
                      case measure => have := HK.out; omega
                      case rel => exact ⟨i + 1, st, left, _, vo1, _, by go_num, ⟨by have := HK.out; omega⟩, by omega, ⟨by exact S6.out.step (by repeat (first | exact Below.refl _ _ | apply pw_below_drewN))⟩, R6, B6, K6, HGO, GB6, ⟨H2⟩⟩)
                  · rw [if_neg c3] at H2; cases H2
                · have b2 : (rd st (tn : Int) == 1) = false := beq_eq_false_iff_ne.mpr c2
                  have H2 := H1.out
                  rw [if_neg c2] at H2
                  by_cases c3 : rd st (tn : Int) = 0
                  · have b3 : (rd st (tn : Int) == 0) = true := beq_iff_eq.mpr c3
                    rw [if_pos c3] at H2
                    obtain ⟨s, hs, H2⟩ := Option.bind_eq_some_iff.1 H2
                    go_wp2
                    go_quiet (fail)
                    go_wp2
                    go_quiet (fail)
                    have b0 : wr.cell? ⟨w.heap.size, 0, none⟩ = some (.string a0) := (blk_cell HB.out 0).trans rfl
                    have b1 : wr.cell? ⟨w.heap.size, 1, none⟩ = some (.bool a1) := (blk_cell HB.out 1).trans rfl
                    have b2' : wr.cell? ⟨w.heap.size, 2, none⟩ = some (.int .i64 a2) := (blk_cell HB.out 2).trans rfl
                    have b3' : wr.cell? ⟨w.heap.size, 3, none⟩ = some (.int .i64 a3) := (blk_cell HB.out 3).trans rfl
                    have b4 : wr.cell? ⟨w.heap.size, 4, none⟩ = some (.slice A4 l4.length c4) := (blk_cell HB.out 4).trans rfl
                    have b5 : wr.cell? ⟨w.heap.size, 5, none⟩ = some (.slice A5 l5.length c5) := (blk_cell HB.out 5).trans rfl
                    have HSS := Aside0.mk hs
                    have H3 := Aside0.mk H2
                    clear hs H2 c2 c3 H1
                    go_upto_region 9 with (fail)
                    go_region_with ((go_at_call 56; refine (IH.out st left back s (tn : Int) _ vo1 vb1 (by exact HS.out.step (by repeat (first | exact Below.refl _ _ | apply pw_below_drewN | apply below_drew))) HSS.out).mono ?_; rintro e w7 ⟨rfl, vo2, vb2, hS, hK, hgo, hgb⟩; have S7 := Aside0.mk hS; have R7 := Aside0.mk (flow_Row.kept HS.out HR.out hK hgo); have B7 := Aside0.mk (blk_kept HS.out HB.out hK (by decide) (by decide) (by decide)); have K7 := Aside0.mk (rf_Turns.then_ HKP.out HGO.out HGB.out hK); have GO7 := Aside0.mk (HGO.out.trans hgo HKP.out.1); have GB7 := Aside0.mk (HGB.out.trans hgb HKP.out.1); clear hS hK hgo hgb))
                    all_goals (
                      go_wp2
                      go_roundg (gk - 1)
                      case measure => have := HK.out; omega
                      case rel => exact ⟨i + 1, _, _, _, _, _, by go_num, ⟨by have := HK.out; omega⟩, by omega, S7, R7, B7, K7, GO7, GB7, H3⟩)
                  · have b3 : (rd st (tn : Int) == 0) = false := beq_eq_false_iff_ne.mpr c3
                    rw [if_neg c3] at H2
                    have H3 := Aside0.mk H2
                    clear H2 c2 c3 H1
                    go_wp2
                    go_quiet (fail)
                    go_wp2
                    go_quiet (fail)
                    go_wp2
                    go_roundg (gk - 1)
                    case measure => have := HK.out; omega
                    case rel => exact ⟨i + 1, st, left, back, vo1, vb1, by go_num, ⟨by have := HK.out; omega⟩, by omega, ⟨by exact HS.out.step (by repeat (first | exact Below.refl _ _ | apply pw_below_drewN))⟩, HR, HB, HKP, HGO, HGB, H3⟩
            · rw [if_neg c1] at H; cases H
          · have hie : i = o.length := by omega
            subst hie
            have H := HA.out
            rw [List.drop_length] at H
            simp only [ref_into.l] at H
            obtain rfl := Option.some.inj H
            go_upto_region 10 with (fail)
            have hnx : nn < st.length := by have := C2.out.1; simp at this; exact this
            have hol : left.length < 4000000000000 := C2.out.2
            have q2 : (nn : Int) < (st.length : Int) := by omega
            have f6 : wr.cell? ⟨wb, 0, none⟩ = some (.slice (some ⟨sb, 0, none⟩) st.length st.length) := (blk_cell HS.out.s 0).trans rfl
            have g1 : wr.cell? ⟨sb, nn, none⟩ = some (.int .i64 (st.getD nn 0)) := (blk_cell HS.out.d nn).trans (by simp [nums]; rw [List.getElem?_eq_getElem hnx]; rfl)
            have zg := blk_frozen HS.out.d nn
            go_upto_region 11 with (fail)
            have S3 := Aside0.mk (HS.out.mark nn 2)
            have K3 := Aside0.mk (show Kept w (wr.setCell ⟨sb, nn, none⟩ (.int .i64 2)) (rf_Turns wb sb vo vb) from Kept.of_grown (grown_set wr sb nn _) HKP.out (fun k e => .inl (.inr (.inl (by injection e with e; exact e.symm)))))
            generalize wr.setCell ⟨sb, nn, none⟩ (.int .i64 2) = w3 at S3 K3 ⊢
            clear f6 g1 zg
            have f7 : w3.cell? ⟨wb, 1, none⟩ = some vo1 := (blk_cell S3.out.s 1).trans rfl
            have f7a : ∀ o, (w3.alloc o).cell? ⟨wb, 1, none⟩ = some vo1 := fun o => (blk_cell (blk_alloc S3.out.s _) 1).trans rfl
            have f7b : w3.drew.cell? ⟨wb, 1, none⟩ = some vo1 := f7
            have f7c : ∀ o, (w3.alloc o).drew.cell? ⟨wb, 1, none⟩ = some vo1 := f7a
            have z7 := blk_frozen S3.out.s 1
            have nwb3 := blk_lt S3.out.s
            go_wp2_with (at_builtin; refine print_append_cells (w0 := w0) (W := w3) w0.heap.size rfl (.tmp 77) (.tmp 79) 46 3 (.int .i64 0) 1 8 rfl hu46 info3 rfl (by decide) (by decide) vo1 left.length (nums .i64 left) [.int .i64 nn] rfl rfl rfl (by intro u hu; simp at hu; subst hu; rfl) S3.out.o S3.out.below S3.out.below.size (by omega) ?_; intro v1 w4 hown hB4 hg40 hat0; obtain ⟨ob, cap4, ev4⟩ := own_shape hown (Nat.succ_pos _); subst ev4; have hg4 : w3.grownBy w4 vo1.ownBlock := ⟨hg40.os, hg40.tape, hg40.output, hg40.size, hg40.block⟩; have hat : rf_Grown w3 vo1 (.slice (some ⟨ob, 0, none⟩) (left.length + 1) cap4) := hat0; have f8 : w4.cell? ⟨wb, 1, none⟩ = some vo1 := (blk_cell (blk_other S3.out.s hg4 (fun he => own_ne_type S3.out.o S3.out.s (by decide) wb he.symm rfl)) 1).trans rfl; have z8 : w4.frozen? ⟨wb, 1, none⟩ = false := blk_frozen (blk_other S3.out.s hg4 (fun he => own_ne_type S3.out.o S3.out.s (by decide) wb he.symm rfl)) 1; have S4 : Aside0 (rf_St w0 (w4.setCell ⟨wb, 1, none⟩ (.slice (some ⟨ob, 0, none⟩) (left.length + 1) cap4)) wb sb (st.set nn 2) (.slice (some ⟨ob, 0, none⟩) (left.length + 1) cap4) (left ++ [(nn : Int)]) vb1 back) := ⟨S3.out.left (nn : Int) hown hg4 hat hB4⟩; have K4 : Aside0 (Kept w (w4.setCell ⟨wb, 1, none⟩ (.slice (some ⟨ob, 0, none⟩) (left.length + 1) cap4)) (rf_Turns wb sb vo vb)) := ⟨Kept.of_grown (grown_set w4 wb 1 _) (Kept.of_grown hg4 K3.out (fun k e => by
              rcases HGO.out with hh | ⟨b, h1, h2⟩
              · exact .inl (.inr (.inr (.inl (hh ▸ e))))
              · rw [h1] at e; injection e with e; subst e; exact .inr h2)) (fun k e => .inl (.inl (by injection e with e; exact e.symm)))⟩; have G4 : Aside0 (rf_Grown w vo (.slice (some ⟨ob, 0, none⟩) (left.length + 1) cap4)) := ⟨rf_Grown.trans HGO.out hat K3.out.1⟩; clear hown hB4 hg4 hat hg40 hat0)
            all_goals (
              refine bodyPost_end (v := .tuple #[]) (by simp [results, Try.results56, go_sem]) rfl ?_
              exact ⟨rfl, _, _, S4.out, K4.out, G4.out, HGB.out⟩)
      · rw [if_neg c2] at h; cases h
    · rw [if_neg c1] at h; cases h
end Go.Proofs.Ytppanpboejpmjaa.Tr
