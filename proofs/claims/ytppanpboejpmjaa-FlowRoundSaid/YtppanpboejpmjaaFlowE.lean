/- FlowE: functions of the program walked by hand, and what they come to. -/
import Derived.Test.YtppanpboejpmjaaProg
import Derived.Below
import Derived.Deep.Draws
import Derived.Deep.AppendLies
import Derived.Maps.AppendAt
import Derived.OwnWalk
import Derived.Laws.BytesArg
import Derived.Laws.MakeOwn
import Derived.Laws.OwnMore
import Derived.Deep.OwnRows
import Derived.Tactics
import Derived.Lib.ConvBytes
import Derived.Laws.Slices
import Derived.WalkKit
import Derived.KernelRfl
import Derived.RowKit3
import Derived.Deep.LoopGhost
import Derived.Deep.QuietTactic
import Derived.BigQuiet
import Derived.WideLaws
import Derived.Deep.DeepCutAuto
import Derived.Deep.CutBlock
import Derived.Deep.RegionHeld3
import Derived.Laws.Rows
import Derived.Lib.AppendStr
import Derived.ArgAppend
import Derived.Laws.IdiomCopy
import Derived.OrdersHeld
import Derived.Laws.BitsLemmas
import Derived.RowKit
import Derived.Shelf.SlicesE.DeleteFunc
import Derived.Test.YtppanpboejpmjaaWWords
import Derived.Test.YtppanpboejpmjaaWLast
import Derived.Test.YtppanpboejpmjaaWTab
import Derived.Test.YtppanpboejpmjaaWFour
import Derived.Test.YtppanpboejpmjaaWQPut
import Derived.Test.YtppanpboejpmjaaWApart
import Derived.Test.YtppanpboejpmjaaWArr
import Derived.Test.YtppanpboejpmjaaWZeros
import Derived.Test.YtppanpboejpmjaaWFoot
import Derived.Test.YtppanpboejpmjaaWKept
import Derived.Test.YtppanpboejpmjaaWShare
import Derived.Test.YtppanpboejpmjaaWN
import Derived.Test.YtppanpboejpmjaaWFootNe
import Derived.Test.YtppanpboejpmjaaWAt
import Derived.Test.YtppanpboejpmjaaWEqStruct
import Derived.Test.YtppanpboejpmjaaWRepsOne
import Derived.Test.YtppanpboejpmjaaWInv
import Derived.Test.YtppanpboejpmjaaWInvWords
import Derived.Test.YtppanpboejpmjaaWGuard
import Derived.Test.YtppanpboejpmjaaWNEv
import Derived.Test.YtppanpboejpmjaaWMore
import Derived.Test.YtppanpboejpmjaaTr0
import Derived.Test.YtppanpboejpmjaaFlowD
import Derived.IntWalk
import Derived.BigRegion
import Derived.Deep.RegionLawGrows
import Derived.Deep.OwnRows
import Derived.Laws.OwnMore
import Derived.Maps.AppendAt
import Derived.Outline
set_option linter.all false
namespace Go.Proofs.Ytppanpboejpmjaa.Tr
open Go.RowKit Go.Proofs.YtppanpboejpmjaaW.PrintWords Go.Proofs.YtppanpboejpmjaaW.PrintLast Go.Proofs.YtppanpboejpmjaaW.PrintMore
set_option linter.unusedVariables false
/-- what DeleteFunc hands back is a row that is read alone -/
theorem flow_Row.of_R {w0 w w1 : World} {wb sb : Nat} {p0 p1 p2 p3 p4 p5 vo vb : Value} {st ord : List Int} {back : List (Int × Int)} (h : flow_St w0 w wb sb p0 p1 p2 p3 p4 p5 st vo ord vb back) {v : Value} {l : List Int} {ok : Nat → Prop} (hr : Kd.R (Kd.int .i64) 3 w1 w.heap.size ok v l) : flow_Row w1 sb vo v l := by
  have hcell := hr
  obtain ⟨inner, h1, ⟨ev, h2⟩ | ⟨g, cap, cur, ev, h2, h3, h4, h5, h6, h7⟩⟩ := Kd.R_own hr
  · have : l = [] := List.length_eq_zero_iff.1 h2
    subst this
    exact ⟨none, 0, ev, Nat.le_refl _, by decide, .inl ⟨rfl, rfl⟩⟩
  · refine ⟨_, cap, ev, h4, by unfold maxLen at h5; omega, .inr ⟨g, 0, cur, rfl, h3, ?_, ?_, ?_⟩⟩
    · intro j hj
      subst ev
      have := Kd.R_celln (enc := Value.int .i64) (0 : Int) hr (j : Int) (Int.natCast_nonneg _) (by omega)
      simp only [Int.toNat_natCast] at this
      rw [blk_cell h3] at this
      rw [Nat.zero_add, this.1]
      simp [rdOf, hj]
    · have := blk_lt h.d; omega
    · intro he
      obtain ⟨_, ⟨ev2, _⟩ | ⟨g2, cap2, cur2, ev2, _, h32, _⟩⟩ := h.o
      · rw [ev2] at he; cases he
      · rw [ev2] at he
        have : g = g2 := by injection he
        have := blk_lt h32; omega
def flow_into.l : Nat → ByteArray → Bool → Int → Int → List S76 → List S45 → List Int → List Int → List (Int × Int) → List (Int × List Int) → Option (List Int × List Int × List (Int × Int))
  | 0, _, _, _, _, _, _, _, _, _, _ => none
  | _ + 1, _, _, _, _, _, _, st, ord, back, [] => some (st, ord, back)
  | k + 1, a0, a1, a2, a3, l4, l5, st, ord, back, (n, []) :: R => if 0 ≤ n ∧ n < (st.length : Int) ∧ ord.length < 4000000000000 then flow_into.l k a0 a1 a2 a3 l4 l5 (st.set n.toNat 2) (ord ++ [n]) back R else none
  | k + 1, a0, a1, a2, a3, l4, l5, st, ord, back, (n, t :: l) :: R => if 0 ≤ t ∧ t < (st.length : Int) then (if rd st t = 1 then (if back.length < 4000000000000 then flow_into.l k a0 a1 a2 a3 l4 l5 st ord (back ++ [(n, t)]) ((n, l) :: R) else none) else if rd st t = 0 then (if R.length < 4000000000000 then (flow_outs.f k a0 a1 a2 a3 l4 l5 t).bind fun o => flow_into.l k a0 a1 a2 a3 l4 l5 (st.set t.toNat 1) ord back ((t, o) :: (n, l) :: R) else none) else flow_into.l k a0 a1 a2 a3 l4 l5 st ord back ((n, l) :: R)) else none
def flow_into.f (k : Nat) (a0 : ByteArray) (a1 : Bool) (a2 a3 : Int) (l4 : List S76) (l5 : List S45) (st ord : List Int) (back : List (Int × Int)) (n : Int) : Option (List Int × List Int × List (Int × Int)) := if 0 ≤ n ∧ n < (st.length : Int) then (flow_outs.f k a0 a1 a2 a3 l4 l5 n).bind fun o => flow_into.l k a0 a1 a2 a3 l4 l5 (st.set n.toNat 1) ord back [(n, o)] else none
theorem flow_info52 : (Try.prog.info? 52).map (fun i => (i.zero, i.size, i.bytes)) = some (some (.agg #[.int .i64 0, .int .i64 0]), 2, 16) := by kernel_rfl
theorem flow_info150 : (Try.prog.info? 150).map (fun i => (i.zero, i.size, i.bytes)) = some (some (.agg #[.int .i64 0, .slice none 0 0]), 2, 32) := by kernel_rfl
set_option maxHeartbeats 8000000 in
set_option maxRecDepth 100000 in
theorem flow_into.calls (k : Nat) (a0 : ByteArray) (a1 : Bool) (a2 a3 : Int) (A4 : Option Addr) (c4 : Nat) (l4 : List S76) (A5 : Option Addr) (c5 : Nat) (l5 : List S45) (st ord : List Int) (back : List (Int × Int)) (r : List Int × List Int × List (Int × Int)) (n : Int) (w0 w : World) (wb sb : Nat) (vo vb : Value)
    (hst : flow_St w0 w wb sb (.string a0) (.bool a1) (.int .i64 a2) (.int .i64 a3) (.slice A4 l4.length c4) (.slice A5 l5.length c5) st vo ord vb back) (hr4 : Kd.C k76 w0 A4 l4.length l4) (hc4 : l4.length ≤ c4) (hr5 : Kd.C k45 w0 A5 l5.length l5) (hc5 : l5.length ≤ c5) (h : flow_into.f k a0 a1 a2 a3 l4 l5 st ord back n = some r) :
    Calls Try.prog 81 #[.pointer (some ⟨wb, 0, none⟩), .int .i64 n] w fun e w' => e = .returned (.tuple #[]) ∧ ∃ vo' vb', flow_St w0 w' wb sb (.string a0) (.bool a1) (.int .i64 a2) (.int .i64 a3) (.slice A4 l4.length c4) (.slice A5 l5.length c5) r.1 vo' r.2.1 vb' r.2.2 := by
  have hu100 := Try.underlying100
  have hu31 := Try.underlying31
  have hu150 := Try.underlying150
  have hu151 := Try.underlying151
  have hu46 := Try.underlying46
  have hu48 := Try.underlying48
  have hu52 := Try.underlying52
  have HST := Aside0.mk hst
  have HR4 := Aside0.mk hr4
  have HR5 := Aside0.mk hr5
  have HC4 := Aside0.mk hc4
  have HC5 := Aside0.mk hc5
  unfold flow_into.f at h
  by_cases c1 : 0 ≤ n ∧ n < (st.length : Int)
  · rw [if_pos c1] at h
    obtain ⟨o, ho, h⟩ := Option.bind_eq_some_iff.1 h
    have HO := Aside0.mk ho
    have H := Aside0.mk h
    have f0 : w.cell? ⟨wb, 0, none⟩ = some (.string a0) := (blk_cell hst.s 0).trans rfl
    have f1 : w.cell? ⟨wb, 1, none⟩ = some (.bool a1) := (blk_cell hst.s 1).trans rfl
    have f2 : w.cell? ⟨wb, 2, none⟩ = some (.int .i64 a2) := (blk_cell hst.s 2).trans rfl
    have f3 : w.cell? ⟨wb, 3, none⟩ = some (.int .i64 a3) := (blk_cell hst.s 3).trans rfl
    have f4 : w.cell? ⟨wb, 4, none⟩ = some (.slice A4 l4.length c4) := (blk_cell hst.s 4).trans rfl
    have f5 : w.cell? ⟨wb, 5, none⟩ = some (.slice A5 l5.length c5) := (blk_cell hst.s 5).trans rfl
    have q1 : (0 : Int) ≤ n := c1.1
    have q2 : n < (st.length : Int) := c1.2
    obtain ⟨nn, rfl⟩ := Int.eq_ofNat_of_zero_le q1
    clear hst hr4 hc4 hr5 hc5 ho h c1
    go_enter Try.func81, Try.ntmps81
    go_upto_region 1 with (go_at_call 47; refine (flow_outs.calls k a0 a1 a2 a3 A4 c4 l4 A5 c5 l5 (nn : Int) o _ (Kd.C_below HR4.out HST.out.below) HC4.out (Kd.C_below HR5.out HST.out.below) HC5.out HO.out).mono ?_; rintro e w1 ⟨v1, rfl, hR, hb⟩; have R1 := Aside0.mk (flow_Row.of_R HST.out hR); obtain ⟨A1, c1, ev1, _⟩ := R1.out; subst ev1; have S1 := Aside0.mk (HST.out.step hb); clear hR hb)
    obtain ⟨w2, e2⟩ : ∃ w2, w2 = w1.alloc (.cells #[.int .i64 nn, .slice A1 o.length c1] 150) := ⟨_, rfl⟩
    rw [← e2]
    have S2 := Aside0.mk (show flow_St w0 w2 wb sb (.string a0) (.bool a1) (.int .i64 a2) (.int .i64 a3) (.slice A4 l4.length c4) (.slice A5 l5.length c5) st vo ord vb back from by rw [e2]; exact S1.out.step (below_alloc (Below.refl _ _) _))
    have K2 := Aside0.mk (show flow_Sk w0 w2 sb vo (.slice (some ⟨w1.heap.size, 0, none⟩) 1 1) [((nn : Int), .slice A1 o.length c1)] [((nn : Int), o)] from by
      refine ⟨⟨rfl, .inr ⟨w1.heap.size, 1, #[.int .i64 nn, .slice A1 o.length c1], rfl, S1.out.below.size, by rw [e2]; exact blk_new _ _, Nat.le_refl _, by decide, rfl, rfl⟩⟩, rfl, ?_⟩
      intro i x y hx hy
      have hi := (List.getElem?_eq_some_iff.1 hx).1
      have h0 : i = 0 := by simp at hi; omega
      subst h0
      simp at hx hy
      subst hx; subst hy
      refine ⟨rfl, ?_⟩
      rw [e2]
      exact flow_Row.other R1.out (grown_below (below_alloc (Below.refl _ _) _)) (by simp))
    clear e2
    obtain ⟨gb, eg⟩ : ∃ gb, gb = w1.heap.size := ⟨_, rfl⟩
    rw [← eg] at K2 ⊢
    clear eg f0 f1 f2 f3 f4 f5
    have f6 : w2.cell? ⟨wb, 6, none⟩ = some (.slice (some ⟨sb, 0, none⟩) st.length st.length) := (blk_cell S2.out.s 6).trans rfl
    have g1 : w2.cell? ⟨sb, nn, none⟩ = some (.int .i64 (st.getD nn 0)) := (blk_cell S2.out.d nn).trans (by simp [nums]; rw [List.getElem?_eq_getElem (by omega)]; rfl)
    have z1 := blk_frozen S2.out.d nn
    go_upto_region 2 with (fail)
    have S3 := Aside0.mk (S2.out.mark nn 1)
    have K3 := Aside0.mk (K2.out.mark S2.out nn (.int .i64 1))
    clear S2 K2 S1 R1 f6 g1 z1 q1 q2
    have hnn : ((nn : Int).toNat) = nn := Int.toNat_natCast _
    rw [hnn] at H
    go_loopg [4] k (fun kq v4 w' => ∃ (S : List (Int × Value)) (R : List (Int × List Int)) (st ord : List Int) (back : List (Int × Int)) (vo vb : Value) (gb cap N : Nat), v4 = .slice (some ⟨gb, 0, none⟩) N cap ∧ N = S.length ∧ Aside0 (flow_St w0 w' wb sb (.string a0) (.bool a1) (.int .i64 a2) (.int .i64 a3) (.slice A4 l4.length c4) (.slice A5 l5.length c5) st vo ord vb back) ∧ Aside0 (flow_Sk w0 w' sb vo (.slice (some ⟨gb, 0, none⟩) S.length cap) S R.reverse) ∧ Aside0 (flow_into.l kq a0 a1 a2 a3 l4 l5 st ord back R = some r) ∧ Aside0 (kq ≤ k))
    case atStart => exact ⟨[((nn : Int), .slice A1 o.length c1)], [((nn : Int), o)], _, _, _, _, _, gb, 1, 1, rfl, rfl, S3, K3, H, ⟨Nat.le_refl _⟩⟩
    case round =>
      clear S3 K3 H HO
      obtain ⟨S, R, st, ord, back, vo, vb, gb, cap, N, rfl, hN, HS, HK, HA, HKK⟩ := hrel
      cases gk with
      | zero => exact absurd HA.out (by simp [flow_into.l])
      | succ k1 =>
        have H := HA.out
        clear HA
        rcases R with _ | ⟨⟨n, l⟩, R⟩
        · have h0 : N = 0 := by rw [hN]; exact HK.out.l
          subst h0
          simp only [flow_into.l] at H
          obtain rfl := Option.some.inj H
          go_wp2
          refine bodyPost_end (v := .tuple #[]) (by simp [results, Try.results81, go_sem]) rfl ?_
          exact ⟨rfl, vo, vb, HS.out⟩
        · rw [List.reverse_cons] at HK
          rcases List.eq_nil_or_concat S with hS | ⟨S', x, hS⟩
          · subst hS
            exact absurd HK.out.l (by simp)
          · rw [List.concat_eq_append] at hS
            subst hS
            have hN2 : N = S'.length + 1 := by rw [hN]; simp
            obtain ⟨t0, t1, z1, hcap, hcap2, ngb⟩ := HK.out.top
            have hll : S'.length = R.reverse.length := by have := HK.out.l; simpa using this
            have htop := HK.out.r S'.length x (n, l) (by rw [List.getElem?_append_right (Nat.le_refl _)]; simp) (by rw [hll, List.getElem?_append_right (Nat.le_refl _)]; simp)
            obtain ⟨xn, xv⟩ := x
            obtain ⟨hxn, hrow⟩ := htop
            simp only at hxn hrow t0 t1
            subst hxn
            obtain ⟨A, c, rfl, hlc, hcb, hrow2⟩ := hrow
            have HROW := Aside0.mk hrow2
            have HLC := Aside0.mk hlc
            have HCB := Aside0.mk hcb
            obtain ⟨m, hm⟩ : ∃ m, m = S'.length := ⟨_, rfl⟩
            rw [← hm] at t0 t1 z1 hcap hN2 hll
            subst hN2
            have HLL := Aside0.mk hll
            have HM := Aside0.mk hm
            have s1 : wrap64 (m : Int) = (m : Int) := by unfold wrap64; omega
            have s2 : (m : Int).toNat = m := Int.toNat_natCast _
            have q1 : (0 : Int) ≤ (m : Int) := Int.natCast_nonneg _
            have q2 : (m : Int) < ((m + 1 : Nat) : Int) := by omega
            clear hrow2 hN hcb hlc hll hm
            rcases l with _ | ⟨t, l⟩
            · simp only [flow_into.l] at H
              by_cases c1 : 0 ≤ xn ∧ xn < (st.length : Int) ∧ ord.length < 4000000000000
              · rw [if_pos c1] at H
                obtain ⟨nx, rfl⟩ := Int.eq_ofNat_of_zero_le c1.1
                rw [Int.toNat_natCast] at H
                have H1 := Aside0.mk H
                clear H
                have hnx : nx < st.length := by have := c1.2.1; omega
                have hol := c1.2.2
                have q3 : (0 : Int) ≤ (nx : Int) := Int.natCast_nonneg _
                have q4 : (nx : Int) < (st.length : Int) := c1.2.1
                have s3 : (nx : Int).toNat = nx := Int.toNat_natCast _
                have x1 : wb ≠ sb := blk_ne HS.out.s HS.out.d (by decide)
                have x2 : gb ≠ sb := fun e => own_ne_type HK.out.t HS.out.d (by decide) gb rfl (by rw [e])
                have f6 : wr.cell? ⟨wb, 6, none⟩ = some (.slice (some ⟨sb, 0, none⟩) st.length st.length) := (blk_cell HS.out.s 6).trans rfl
                have g1 : wr.cell? ⟨sb, nx, none⟩ = some (.int .i64 (st.getD nx 0)) := (blk_cell HS.out.d nx).trans (by simp [nums]; rw [List.getElem?_eq_getElem hnx]; rfl)
                have zg := blk_frozen HS.out.d nx
                clear c1
                go_upto_region 5 with (fail)
                go_big_region
                go_upto_region 6 with (fail)
                obtain ⟨w3, e3⟩ : ∃ w3, w3 = (wr.setCell ⟨sb, nx, none⟩ (.int .i64 2)).drew := ⟨_, rfl⟩
                rw [← e3]
                have S3 := Aside0.mk (show flow_St w0 w3 wb sb (.string a0) (.bool a1) (.int .i64 a2) (.int .i64 a3) (.slice A4 l4.length c4) (.slice A5 l5.length c5) (st.set nx 2) vo ord vb back from by rw [e3]; exact (HS.out.mark nx 2).step (below_drew (Below.refl _ _)))
                have K3 := Aside0.mk (show flow_Sk w0 w3 sb vo (.slice (some ⟨gb, 0, none⟩) (S' ++ [((nx : Int), Value.slice A 0 c)]).length cap) (S' ++ [((nx : Int), Value.slice A 0 c)]) (R.reverse ++ [((nx : Int), ([] : List Int))]) from by rw [e3]; exact (HK.out.mark HS.out nx _).step (below_drew (Below.refl _ _)))
                clear e3 f6 g1 zg t0 t1 z1
                obtain ⟨t0, t1, z1, _, _, ngb3⟩ := K3.out.top
                rw [← HM.out] at t0 t1 z1
                have f7 : w3.cell? ⟨wb, 7, none⟩ = some vo := (blk_cell S3.out.s 7).trans rfl
                have f7a : ∀ o, (w3.alloc o).cell? ⟨wb, 7, none⟩ = some vo := fun o => (blk_cell (blk_alloc S3.out.s _) 7).trans rfl
                have f7b : w3.drew.cell? ⟨wb, 7, none⟩ = some vo := f7
                have f7c : ∀ o, (w3.alloc o).drew.cell? ⟨wb, 7, none⟩ = some vo := f7a
                have t0a : ∀ o, (w3.alloc o).cell? ⟨gb, m * 2, none⟩ = some (.int .i64 nx) := fun o => Lib.cell?_alloc_some o t0
                have t0b : w3.drew.cell? ⟨gb, m * 2, none⟩ = some (.int .i64 nx) := t0
                have z7 := blk_frozen S3.out.s 7
                have nwb := blk_lt S3.out.s
                go_region_law (first | (refine step_append_cells (w0 := w0) (W := w3.drew) w0.heap.size rfl (.tmp 49) (.tmp 54) 46 3 (.int .i64 0) 1 8 rfl hu46 info3 rfl (by decide) (by decide) vo ord.length (nums .i64 ord) [.int .i64 nx] rfl rfl rfl (by intro u hu; simp at hu; subst hu; rfl) S3.out.o (below_drew S3.out.below) S3.out.below.size (by omega) ?_; intro v1 w4 hown hB4 hg40 hat0; obtain ⟨ob, cap4, ev4⟩ := own_shape hown (Nat.succ_pos _); subst ev4; have hg4 : w3.grownBy w4 vo.ownBlock := ⟨hg40.os, hg40.tape, hg40.output, hg40.size, hg40.block⟩; have hat : (Value.slice (some ⟨ob, 0, none⟩) (ord.length + 1) cap4).ownBlock = vo.ownBlock ∨ ∃ b, (Value.slice (some ⟨ob, 0, none⟩) (ord.length + 1) cap4).ownBlock = some b ∧ w3.heap.size ≤ b := hat0; have f8 : w4.cell? ⟨wb, 7, none⟩ = some vo := (blk_cell (blk_other S3.out.s hg4 (fun he => own_ne_type S3.out.o S3.out.s (by decide) wb he.symm rfl)) 7).trans rfl; have z8 : w4.frozen? ⟨wb, 7, none⟩ = false := blk_frozen (blk_other S3.out.s hg4 (fun he => own_ne_type S3.out.o S3.out.s (by decide) wb he.symm rfl)) 7; have S4 : Aside0 (flow_St w0 (w4.setCell ⟨wb, 7, none⟩ (.slice (some ⟨ob, 0, none⟩) (ord.length + 1) cap4)) wb sb (.string a0) (.bool a1) (.int .i64 a2) (.int .i64 a3) (.slice A4 l4.length c4) (.slice A5 l5.length c5) (st.set nx 2) (.slice (some ⟨ob, 0, none⟩) (ord.length + 1) cap4) (ord ++ [(nx : Int)]) vb back) := ⟨S3.out.left (nx : Int) hown hg4 hat hB4⟩; have K4 : Aside0 (flow_Sk w0 (w4.setCell ⟨wb, 7, none⟩ (.slice (some ⟨ob, 0, none⟩) (ord.length + 1) cap4)) sb (.slice (some ⟨ob, 0, none⟩) (ord.length + 1) cap4) (.slice (some ⟨gb, 0, none⟩) (S' ++ [((nx : Int), Value.slice A 0 c)]).length cap) (S' ++ [((nx : Int), Value.slice A 0 c)]) (R.reverse ++ [((nx : Int), ([] : List Int))])) := ⟨K3.out.left S3.out hg4 hat⟩; clear hown hB4 hg4 hat hg40 hat0))
                all_goals (
                  go_wp2
                  go_roundg k1
                  case measure => have := HKK.out; omega
                  case rel => exact ⟨S', R, _, _, _, _, _, gb, cap, m, rfl, HM.out, S4, ⟨K4.out.pop⟩, H1, ⟨by have := HKK.out; omega⟩⟩)
              · rw [if_neg c1] at H; cases H
            · rcases HROW.out with ⟨_, h0⟩ | ⟨g, off, cur, rfl, e2, e3, e4, e5⟩
              · cases h0
              · have y0 : wr.cell? ⟨g, off, none⟩ = some (.int .i64 t) := (blk_cell e2 off).trans (e3 0 (by simp))
                have E2 := Aside0.mk e2
                have E3 := Aside0.mk e3
                have hc1 : l.length + 1 ≤ c := HLC.out
                have x3 : g ≠ gb := fun e => own_ne_type HK.out.t e2 (by decide) gb rfl (by rw [e])
                simp only [flow_into.l] at H
                by_cases c1 : 0 ≤ t ∧ t < (st.length : Int)
                · rw [if_pos c1] at H
                  have H1 := Aside0.mk H
                  have hrow2 := flow_Row.rest (sb := sb) (vo := vo) HLC.out HCB.out e2 e3 e4 e5
                  have hgb : w0.heap.size ≤ gb := own_base HK.out.t gb rfl
                  have S5 := HS.out.stack HK.out (grown_set wr gb (S'.length * 2 + 1) (.slice (if c = 1 then some ⟨g, off, none⟩ else some ⟨g, off + 1, none⟩) l.length (c - 1))) (below_set HS.out.below hgb)
                  have K5 := HK.out.next l hrow2
                  rw [← HM.out] at S5 K5
                  have HS5 := Aside0.mk S5
                  have HK5 := Aside0.mk K5
                  clear H e2 e3 HROW S5 K5 hrow2
                  go_upto_region 10 with (fail)
                  generalize (Value.slice (if c = 1 then some ⟨g, off, none⟩ else some ⟨g, off + 1, none⟩) l.length (c - 1)) = V2 at HS5 HK5 ⊢
                  generalize wr.setCell ⟨gb, m * 2 + 1, none⟩ V2 = w5 at HS5 HK5 ⊢
                  obtain ⟨tn, rfl⟩ := Int.eq_ofNat_of_zero_le c1.1
                  have htn : tn < st.length := by have := c1.2; omega
                  rw [Int.toNat_natCast] at H1
                  have q3 : (0 : Int) ≤ (tn : Int) := Int.natCast_nonneg _
                  have q4 : (tn : Int) < (st.length : Int) := c1.2
                  have s3 : (tn : Int).toNat = tn := Int.toNat_natCast _
                  have x1 : wb ≠ sb := blk_ne HS5.out.s HS5.out.d (by decide)
                  have f6 : w5.cell? ⟨wb, 6, none⟩ = some (.slice (some ⟨sb, 0, none⟩) st.length st.length) := (blk_cell HS5.out.s 6).trans rfl
                  have g1 : w5.cell? ⟨sb, tn, none⟩ = some (.int .i64 (rd st (tn : Int))) := (blk_cell HS5.out.d tn).trans (by simp [nums, rd]; rw [List.getElem?_eq_getElem htn]; rfl)
                  have zg := blk_frozen HS5.out.d tn
                  clear c1 t0 t1 z1 y0 E2 E3 x3 hc1
                  by_cases c2 : rd st (tn : Int) = 1
                  · have b2 : (rd st (tn : Int) == 1) = true := beq_iff_eq.mpr c2
                    have H2 := H1.out
                    rw [if_pos c2] at H2
                    by_cases c3 : back.length < 4000000000000
                    · rw [if_pos c3] at H2
                      have H3 := Aside0.mk H2
                      clear H2 c2 H1
                      go_upto_region 12 with (fail)
                      obtain ⟨t0, t1, z1, _, _, ngb3⟩ := HK5.out.top
                      rw [← HM.out] at t0 t1 z1
                      have f8 : w5.cell? ⟨wb, 8, none⟩ = some vb := (blk_cell HS5.out.s 8).trans rfl
                      have f8a : ∀ o, (w5.alloc o).cell? ⟨wb, 8, none⟩ = some vb := fun o => (blk_cell (blk_alloc HS5.out.s _) 8).trans rfl
                      have f8b : w5.drew.cell? ⟨wb, 8, none⟩ = some vb := f8
                      have f8c : ∀ o, (w5.alloc o).drew.cell? ⟨wb, 8, none⟩ = some vb := f8a
                      have t0a : ∀ o, (w5.alloc o).cell? ⟨gb, m * 2, none⟩ = some (.int .i64 xn) := fun o => Lib.cell?_alloc_some o t0
                      have t0b : w5.drew.cell? ⟨gb, m * 2, none⟩ = some (.int .i64 xn) := t0
                      have z7 := blk_frozen HS5.out.s 8
                      have nwb := blk_lt HS5.out.s
                      go_region_law (first | (refine step_append_cells (w0 := w0) (W := w5.drew) w0.heap.size rfl (.tmp 90) (.tmp 97) 48 52 (.agg #[.int .i64 0, .int .i64 0]) 2 16 rfl hu48 flow_info52 rfl (by decide) (by decide) vb back.length (back.flatMap fun x : Int × Int => [.int .i64 x.1, .int .i64 x.2]) [.int .i64 xn, .int .i64 tn] rfl rfl rfl (by intro u hu; simp at hu; rcases hu with rfl | rfl <;> rfl) HS5.out.b (below_drew HS5.out.below) HS5.out.below.size (by omega) ?_; intro v1 w6 hown hB4 hg40 hat0; obtain ⟨ob, cap4, ev4⟩ := own_shape hown (Nat.succ_pos _); subst ev4; have hg4 : w5.grownBy w6 vb.ownBlock := ⟨hg40.os, hg40.tape, hg40.output, hg40.size, hg40.block⟩; have f9 : w6.cell? ⟨wb, 8, none⟩ = some vb := (blk_cell (blk_other HS5.out.s hg4 (fun he => own_ne_type HS5.out.b HS5.out.s (by decide) wb he.symm rfl)) 8).trans rfl; have z9 : w6.frozen? ⟨wb, 8, none⟩ = false := blk_frozen (blk_other HS5.out.s hg4 (fun he => own_ne_type HS5.out.b HS5.out.s (by decide) wb he.symm rfl)) 8; have S6 : Aside0 (flow_St w0 (w6.setCell ⟨wb, 8, none⟩ (.slice (some ⟨ob, 0, none⟩) (back.length + 1) cap4)) wb sb (.string a0) (.bool a1) (.int .i64 a2) (.int .i64 a3) (.slice A4 l4.length c4) (.slice A5 l5.length c5) st vo ord (.slice (some ⟨ob, 0, none⟩) (back.length + 1) cap4) (back ++ [(xn, (tn : Int))])) := ⟨HS5.out.back xn (tn : Int) hown hg4 hB4⟩; have K6 : Aside0 (flow_Sk w0 (w6.setCell ⟨wb, 8, none⟩ (.slice (some ⟨ob, 0, none⟩) (back.length + 1) cap4)) sb vo (.slice (some ⟨gb, 0, none⟩) (S' ++ [(xn, V2)]).length cap) (S' ++ [(xn, V2)]) (R.reverse ++ [(xn, l)])) := ⟨HK5.out.back HS5.out hg4⟩; clear hown hB4 hg4 hg40 hat0))
                      all_goals (
                        go_wp2
                        go_roundg k1
                        case measure => have := HKK.out; omega
                        case rel => exact ⟨S' ++ [(xn, V2)], (xn, l) :: R, _, _, _, _, _, gb, cap, m + 1, rfl, by rw [HM.out]; simp, S6, ⟨by rw [List.reverse_cons]; exact K6.out⟩, H3, ⟨by have := HKK.out; omega⟩⟩)
                    · rw [if_neg c3] at H2; cases H2
                  · have b2 : (rd st (tn : Int) == 1) = false := beq_eq_false_iff_ne.mpr c2
                    have H2 := H1.out
                    rw [if_neg c2] at H2
                    clear H1
                    by_cases c3 : rd st (tn : Int) = 0
                    · have b3 : (rd st (tn : Int) == 0) = true := beq_iff_eq.mpr c3
                      rw [if_pos c3] at H2
                      by_cases c9 : R.length < 4000000000000
                      · rw [if_pos c9] at H2
                        obtain ⟨o2, ho2, H2⟩ := Option.bind_eq_some_iff.1 H2
                        have H3 := Aside0.mk H2
                        have HO2 := Aside0.mk ho2
                        clear H2 ho2 c2 c3
                        go_upto_region 14 with (fail)
                        go_upto_region 15 with (fail)
                        have S6 := Aside0.mk (HS5.out.mark tn 1)
                        have K6 := Aside0.mk (HK5.out.mark HS5.out tn (.int .i64 1))
                        generalize w5.setCell ⟨sb, tn, none⟩ (.int .i64 1) = w6 at S6 K6 ⊢
                        clear f6 g1 zg HS5 HK5
                        have f0 : w6.cell? ⟨wb, 0, none⟩ = some (.string a0) := (blk_cell S6.out.s 0).trans rfl
                        have f1 : w6.cell? ⟨wb, 1, none⟩ = some (.bool a1) := (blk_cell S6.out.s 1).trans rfl
                        have f2 : w6.cell? ⟨wb, 2, none⟩ = some (.int .i64 a2) := (blk_cell S6.out.s 2).trans rfl
                        have f3 : w6.cell? ⟨wb, 3, none⟩ = some (.int .i64 a3) := (blk_cell S6.out.s 3).trans rfl
                        have f4 : w6.cell? ⟨wb, 4, none⟩ = some (.slice A4 l4.length c4) := (blk_cell S6.out.s 4).trans rfl
                        have f5 : w6.cell? ⟨wb, 5, none⟩ = some (.slice A5 l5.length c5) := (blk_cell S6.out.s 5).trans rfl
                        have hlen : (S' ++ [(xn, V2)]).length = m + 1 := by rw [HM.out]; simp
                        have hmr : m < 4000000000000 := by have h1 := HLL.out; simp at h1; omega
                        go_wp2_with (first | (go_at_call 47; refine (flow_outs.calls k1 a0 a1 a2 a3 A4 c4 l4 A5 c5 l5 (tn : Int) o2 _ (Kd.C_below HR4.out S6.out.below) HC4.out (Kd.C_below HR5.out S6.out.below) HC5.out HO2.out).mono ?_; rintro e w7 ⟨v1, rfl, hR, hb⟩; have R7 := Aside0.mk (flow_Row.of_R S6.out hR); have S7 := Aside0.mk (S6.out.step hb); have K7 := Aside0.mk (K6.out.step hb); obtain ⟨A7, c7, ev7, _⟩ := R7.out; subst ev7; clear hR hb) | (at_builtin; refine print_append_cells (w0 := w0) (W := w7) w0.heap.size rfl (.tmp 109) (.tmp 118) 151 150 (.agg #[.int .i64 0, .slice none 0 0]) 2 32 rfl hu151 flow_info150 rfl (by decide) (by decide) (.slice (some ⟨gb, 0, none⟩) (m + 1) cap) (m + 1) ((S' ++ [(xn, V2)]).flatMap fun x : Int × Value => [.int .i64 x.1, x.2]) [.int .i64 tn, .slice A7 o2.length c7] rfl rfl rfl (by intro u hu; simp at hu; rcases hu with rfl | rfl <;> rfl) (by have h := K7.out.t; rw [hlen] at h; exact h) S7.out.below S7.out.below.size (by omega) ?_; intro v8 w8 hown8 hB8 hg8 hat8; obtain ⟨ob8, cap8, ev8⟩ := own_shape hown8 (Nat.succ_pos _); subst ev8; have S8 := Aside0.mk (S7.out.stack K7.out hg8 hB8); have K8 := Aside0.mk (K7.out.push (vs' := .slice (some ⟨ob8, 0, none⟩) (m + 1 + 1) cap8) (tn : Int) (.slice A7 o2.length c7) o2 R7.out (by rw [hlen]; exact hown8) hg8); clear hown8 hB8 hg8 hat8))
                        go_roundg k1
                        case measure => have := HKK.out; omega
                        case rel => exact ⟨S' ++ [(xn, V2)] ++ [((tn : Int), .slice A7 o2.length c7)], ((tn : Int), o2) :: (xn, l) :: R, _, _, _, _, _, ob8, cap8, m + 1 + 1, rfl, by rw [HM.out]; simp, S8, ⟨by have h := K8.out; rw [show m + 1 + 1 = (S' ++ [(xn, V2)] ++ [((tn : Int), Value.slice A7 o2.length c7)]).length from by rw [HM.out]; simp] at h; rw [List.reverse_cons, List.reverse_cons]; exact h⟩, H3, ⟨by have := HKK.out; omega⟩⟩
                      · rw [if_neg c9] at H2; cases H2
                    · have b3 : (rd st (tn : Int) == 0) = false := beq_eq_false_iff_ne.mpr c3
                      rw [if_neg c3] at H2
                      have H3 := Aside0.mk H2
                      clear H2 c2 c3
                      go_wp2
                      go_roundg k1
                      case measure => have := HKK.out; omega
                      case rel => exact ⟨S' ++ [(xn, V2)], (xn, l) :: R, _, _, _, _, _, gb, cap, m + 1, rfl, by rw [HM.out]; simp, HS5, ⟨by rw [List.reverse_cons]; exact HK5.out⟩, H3, ⟨by have := HKK.out; omega⟩⟩
                · rw [if_neg c1] at H; cases H
  · rw [if_neg c1] at h; cases h
end Go.Proofs.Ytppanpboejpmjaa.Tr
