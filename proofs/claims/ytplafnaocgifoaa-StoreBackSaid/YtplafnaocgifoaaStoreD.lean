/- StoreD: functions of the program walked by hand, and what they come to. -/
import Derived.Test.YtplafnaocgifoaaProg
import Derived.Below
import Derived.Deep.Draws
import Derived.Deep.AppendLies
import Derived.Maps.AppendAt
import Derived.OwnWalk
import Derived.Laws.BytesArg
import Derived.Laws.MakeOwn
import Derived.Laws.OwnMore
import Derived.Deep.OwnRows
import Derived.Tactics
import Derived.Lib.ConvBytes
import Derived.Laws.Slices
import Derived.WalkKit
import Derived.KernelRfl
import Derived.RowKit3
import Derived.Deep.LoopGhost
import Derived.Deep.QuietTactic
import Derived.BigQuiet
import Derived.WideLaws
import Derived.Deep.DeepCutAuto
import Derived.Deep.CutBlock
import Derived.Deep.RegionHeld3
import Derived.Laws.Rows
import Derived.Lib.AppendStr
import Derived.ArgAppend
import Derived.Laws.IdiomCopy
import Derived.OrdersHeld
import Derived.Laws.BitsLemmas
import Derived.RowKit
import Derived.Test.YtplafnaocgifoaaWWords
import Derived.Test.YtplafnaocgifoaaWLast
import Derived.Test.YtplafnaocgifoaaWTab
import Derived.Test.YtplafnaocgifoaaWFour
import Derived.Test.YtplafnaocgifoaaWQPut
import Derived.Test.YtplafnaocgifoaaWApart
import Derived.Test.YtplafnaocgifoaaWArr
import Derived.Test.YtplafnaocgifoaaWZeros
import Derived.Test.YtplafnaocgifoaaWFoot
import Derived.Test.YtplafnaocgifoaaWKept
import Derived.Test.YtplafnaocgifoaaWShare
import Derived.Test.YtplafnaocgifoaaWN
import Derived.Test.YtplafnaocgifoaaWFootNe
import Derived.Test.YtplafnaocgifoaaWAt
import Derived.Test.YtplafnaocgifoaaWEqStruct
import Derived.Test.YtplafnaocgifoaaWRepsOne
import Derived.Test.YtplafnaocgifoaaWInv
import Derived.Test.YtplafnaocgifoaaWInvWords
import Derived.Test.YtplafnaocgifoaaWGuard
import Derived.Test.YtplafnaocgifoaaWNEv
import Derived.Test.YtplafnaocgifoaaWMore
import Derived.Test.YtplafnaocgifoaaSt0
import Derived.Test.YtplafnaocgifoaaStoreC
import Derived.WalkSpells
import Derived.StillTailTactics
import Derived.Outline
set_option linter.all false
namespace Go.Proofs.Ytplafnaocgifoaa.St
open Go.RowKit Go.Proofs.YtplafnaocgifoaaW.PrintWords Go.Proofs.YtplafnaocgifoaaW.PrintLast Go.Proofs.YtplafnaocgifoaaW.PrintMore
set_option linter.unusedVariables false
theorem store_Ob.putM {w0 w : World} {sb lb cap db tb n m m' : Nat} {mp : Option Nat} {g g' : Int → S24} {data : List Int} {set : List Bool} (h : store_Ob w0 w sb lb cap db tb n mp m g data set) (b : Nat) (hb : w0.heap.size ≤ b) (hm : store_Map w b m' g') : store_Ob w0 (w.setCell ⟨lb, 2, none⟩ (.map (some b))) sb lb cap db tb n (some b) m' g' data set where
  s := by obtain ⟨cs, h1, h2⟩ := h.l; exact blk_far h.s (blk_ne h.s h1 (by decide)) _
  l := by
    obtain ⟨cs, h1, h2, h3, h4, h5⟩ := h.l
    have hl := (Array.getElem?_eq_some_iff.1 h4).1
    refine ⟨_, blk_put h1 2 _ rfl, ?_, ?_, ?_, ?_⟩
    · rw [Array.getElem?_setIfInBounds_ne (by decide)]; exact h2
    · rw [Array.getElem?_setIfInBounds_ne (by decide)]; exact h3
    · rw [Array.getElem?_setIfInBounds_self_of_lt hl]
    · rw [Array.getElem?_setIfInBounds_ne (by decide)]; exact h5
  d := by obtain ⟨cs, h1, h2⟩ := h.l; exact blk_far h.d (blk_ne h.d h1 (by decide)) _
  t := by obtain ⟨cs, h1, h2⟩ := h.l; exact blk_far h.t (blk_ne h.t h1 (by decide)) _
  dl := h.dl
  tl := h.tl
  p := by obtain ⟨cs, h1, h2⟩ := h.l; exact .inr ⟨b, rfl, hb, hm.far h1 _ _⟩
  bs := h.bs
  bl := h.bl
  bd := h.bd
  bt := h.bt
  below := below_set h.below h.bl
theorem store_Map.mono {w : World} {b m m' : Nat} {g : Int → S24} (h : store_Map w b m g) (hm : m ≤ m') : store_Map w b m' g := by
  obtain ⟨D, h1, h2, h3⟩ := h
  exact ⟨D, h1.mono hm, h2, h3⟩
/-- a pointer more -/
def store_with (g : Int → S24) (P : Int) (q : S24) : Int → S24 := fun y => if y = P then q else g y
set_option maxHeartbeats 8000000 in
set_option maxRecDepth 100000 in
theorem store_Put_ptr (w0 w : World) (sb lb cap db tb n m P : Nat) (mp : Option Nat) (g : Int → S24) (data : List Int) (set : List Bool) (h : store_Ob w0 w sb lb cap db tb n mp m g data set) (p1 p2 : Int) (x : Int) (q : S24)
    (h1 : p1 ≤ (P : Int)) (h3 : (P : Int) + 4 ≤ p2) (h4 : (P : Int) + 4 ≤ n) (h5 : p2 ≤ 1000000) (h6 : n ≤ 1000000) (hm : m ≤ 1000) :
    Calls Try.prog 10 #[.pointer (some ⟨sb, 0, none⟩), .agg #[.int .i64 1, .int .i64 p1, .int .i64 p2, .int .i64 P], .int .i64 4, .agg #[.int .u32 x, .int .i64 q.f0, .int .i64 q.f1, .int .i64 q.f2, .int .i64 q.f3, .bool true]] w fun e w' => e = .returned (.int .i64 0) ∧ ∃ b : Nat, store_Ob w0 w' sb lb cap db tb n (some b) (m + 1) (store_with (store_gone g ((P : Int) - 3) ((P : Int) + 4)) P q) (store_wr data P 0 4) (store_on set P 4) ∧ store_Kept w w' ∧ w.heap.size ≤ w'.heap.size := by
  have hu24 := Try.underlying24
  have hu26 := Try.underlying26
  have hu59 := Try.underlying59
  have hu56 := Try.underlying56
  have hu41 := Try.underlying41
  have hu54 := Try.underlying54
  have hmm := @run_makeMap Try.prog
  have heq := fun (w : World) (r : Option Nat) => run_eql_map_nil (P := Try.prog) w 57 3 24 r Try.underlying57
  have H := Aside0.mk h
  have hP : P ≤ 1000000 := by omega
  clear h
  go_enter Try.func10, Try.ntmps10
  go_upto_region 8 with (first | (go_at_call 19; (with_reducible refine (store_place_ob w0 _ sb lb cap db tb n m P mp g data set ?a1 p1 p2 true h1 h3 h4 h5 h6).mono ?_); (case a1 => exact H.out.step (below_alloc (below_alloc (Below.refl _ _) _) _)); rintro e w1 ⟨rfl, hb⟩; have H1 := Aside0.mk (H.out.step (below_step (below_alloc (below_alloc (Below.refl w.heap.size w) _) _) hb)); have BX1 := Aside0.mk (blk_below (blk_alloc (blk_new w _) _) hb); have BY1 := Aside0.mk (blk_below (store_second w _ _) hb); have KP1 := Aside0.mk (store_Kept.below (below_step (below_alloc (below_alloc (Below.refl w.heap.size w) _) _) hb)); have a1 : w1.cell? ⟨w.heap.size + 1, 0, none⟩ = some (.int .u32 x) := (blk_cell BY1.out 0).trans rfl; have a3 : w1.cell? ⟨w.heap.size, 3, none⟩ = some (.int .i64 P) := (blk_cell BX1.out 3).trans rfl; have SZ1 : w.heap.size ≤ w1.heap.size := (by have := hb.size; simp [World.size_alloc] at this; omega); clear hb) | (go_at_call 20; (with_reducible refine (store_forget_ob w0 w1 sb lb cap db tb n m P mp g data set H1.out hP).mono ?_); rintro e w2 ⟨rfl, hO, hK, hZ⟩; have H2 := Aside0.mk hO; have BX2 := Aside0.mk (hK _ _ _ BX1.out (by decide) (by decide) (by decide)); have BY2 := Aside0.mk (hK _ _ _ BY1.out (by decide) (by decide) (by decide)); have KP2 := Aside0.mk (KP1.out.trans hK); have a2 : w2.cell? ⟨w.heap.size + 1, 5, none⟩ = some (.bool true) := (blk_cell BY2.out 5).trans rfl; have SZ2 := Nat.le_trans SZ1 hZ; clear hO hK hZ))
  obtain ⟨cs, l1, l2, l3, l4, l5⟩ := H2.out.l
  have f2 : w2.cell? ⟨lb, 2, none⟩ = some (.map mp) := (blk_cell l1 2).trans l4
  have z2 := blk_frozen l1 2
  have HL := Aside0.mk l1
  have n1 := blk_lt l1
  clear l1 l2 l3 l4 l5
  rcases H2.out.p with ⟨rfl, hg⟩ | ⟨b, rfl, hb, hmp⟩
  · go_upto_region 10 with fail
    have HO := Aside0.mk ((H2.out.step (below_alloc (Below.refl w2.heap.size w2) (.map #[] 0))).putM w2.heap.size (Nat.le_trans H2.out.below.size (Nat.le_refl _)) (by have h9 := store_Map.start w2; rw [← hg] at h9; exact h9.mono (Nat.zero_le m)))
    have BXr := Aside0.mk (blk_far (blk_alloc BX2.out (.map #[] 0)) (p := ⟨lb, 2, none⟩) (blk_ne BX2.out HL.out (by decide)) (.map (some w2.heap.size)))
    have BYr := Aside0.mk (blk_far (blk_alloc BY2.out (.map #[] 0)) (p := ⟨lb, 2, none⟩) (blk_ne BY2.out HL.out (by decide)) (.map (some w2.heap.size)))
    have KPr := Aside0.mk (KP2.out.trans ((store_Kept.below (below_alloc (Below.refl w2.heap.size w2) (.map #[] 0))).trans (store_Kept.set (blk_alloc HL.out _) (.inl rfl) (i := 2) (.map (some w2.heap.size)))))
    have SZr : w.heap.size ≤ ((w2.alloc (.map #[] 0)).setCell ⟨lb, 2, none⟩ (.map (some w2.heap.size))).heap.size := by simp [World.setCell, World.size_alloc]; omega
    rw [World.setCell_alloc_past _ _ _ _ n1] at HO BXr BYr KPr SZr
    generalize eW : (w2.setCell ⟨lb, 2, none⟩ (.map (some w2.heap.size))).alloc (.map #[] 0) = w3 at HO BXr BYr KPr SZr ⊢
    clear eW f2 z2 n1 HL
    generalize eB : w2.heap.size = b at HO ⊢
    clear eB
    obtain ⟨cs, l1, l2, l3, l4, l5⟩ := HO.out.l
    have f2 : w3.cell? ⟨lb, 2, none⟩ = some (.map (some b)) := (blk_cell l1 2).trans l4
    have f3 : w3.cell? ⟨w.heap.size, 3, none⟩ = some (.int .i64 P) := (blk_cell BXr.out 3).trans rfl
    have v1 : w3.cell? ⟨w.heap.size + 1, 1, none⟩ = some (.int .i64 q.f0) := (blk_cell BYr.out 1).trans rfl
    have v2 : w3.cell? ⟨w.heap.size + 1, 2, none⟩ = some (.int .i64 q.f1) := (blk_cell BYr.out 2).trans rfl
    have v3 : w3.cell? ⟨w.heap.size + 1, 3, none⟩ = some (.int .i64 q.f2) := (blk_cell BYr.out 3).trans rfl
    have v4 : w3.cell? ⟨w.heap.size + 1, 4, none⟩ = some (.int .i64 q.f3) := (blk_cell BYr.out 4).trans rfl
    clear l1 l2 l3 l4 l5
    go_still_tail 8, (by kernel_rfl)
    change wpList _ _ _ _ _ w3.drew
    obtain ⟨b', eb', hb0, D, hown, hmap, hat⟩ : ∃ b', some b = some b' ∧ w0.heap.size ≤ b' ∧ store_Map w3 b' m (store_gone g ((P : Int) - 3) ((P : Int) + 4)) := by
      rcases HO.out.p with ⟨h, _⟩ | h
      · cases h
      · exact h
    injection eb' with eb'
    subst eb'
    have HOWN := Aside0.mk hown.drew
    clear hown
    go_upto_block 99 with (at_mapUpdate; refine wpList_mapUpdate_own _ rfl _ _ _ 57 rfl 3 24 store_law Try.underlying57 store_rd b m D rfl HOWN.out (by unfold maxLen; omega) _ _ (.int .i64 (P : Int)) rfl rfl (Go.Maps.keyOf_int_mk Try.underlying3 (WalkArith.wf_i64 (by omega))) (store_enc q) [] (store_rd_val q) ?_; intro w4 hown4 hgrow4; have HO4 := Aside0.mk (HO.out.drew.turned hgrow4 (store_Map.not ⟨D, HOWN.out, hmap, hat⟩) (Below.grown (below_drew HO.out.below) hgrow4 (below_drew HO.out.below).size (by intro k e; injection e with e; subst e; exact hb0)) (m' := m + 1) (g' := store_with (store_gone g ((P : Int) - 3) ((P : Int) + 4)) P q) (.inr ⟨b, rfl, hb0, _, hown4, hmap.put _ _, fun y => (by
      by_cases e : y = (P : Int)
      · subst e
        rw [Go.Maps.atKey_put_same hmap (by simp [WideAt.IsKeyLit])]; unfold store_with; rw [if_pos rfl]
      · rw [Go.Maps.atKey_put_other (by intro hh; injection hh with _ hh; exact e hh), hat y]; unfold store_with; rw [if_neg e])⟩)); have KP4 := Aside0.mk ((show store_Kept w w3.drew from KPr.out).trans (store_Kept.grown hgrow4 (store_Map.not ⟨D, HOWN.out, hmap, hat⟩))); have BX4 := Aside0.mk (store_Kept.grown hgrow4 (store_Map.not ⟨D, HOWN.out, hmap, hat⟩) _ _ _ (show w3.drew.heap[w.heap.size]? = some (.cells #[.int .i64 1, .int .i64 p1, .int .i64 p2, .int .i64 P] 24 (0, 0)) from BXr.out) (by decide) (by decide) (by decide)); have SZ4 := Nat.le_trans (show w.heap.size ≤ w3.drew.heap.size from SZr) hgrow4.4; clear hown4 hgrow4)
    go_loopg [52] 4 (fun kq v52 w' => ∃ i : Nat, v52 = .int .i64 i ∧ Aside0 (kq + i = 4) ∧ i ≤ 4 ∧ Aside0 (store_Ob w0 w' sb lb cap db tb n (some b) (m + 1) (store_with (store_gone g ((P : Int) - 3) ((P : Int) + 4)) P q) (store_wr data P 0 i) (store_on set P i)) ∧ Aside0 (w'.heap[w.heap.size]? = some (.cells #[.int .i64 1, .int .i64 p1, .int .i64 p2, .int .i64 P] 24 (0, 0))) ∧ Aside0 (store_Kept w w') ∧ Aside0 (w.heap.size ≤ w'.heap.size))
    case atStart => exact ⟨0, rfl, ⟨rfl⟩, by omega, HO4, BX4, KP4, ⟨SZ4⟩⟩
    case round =>
      obtain ⟨i, rfl, HK, hi, HO, BXr, KPr, SZr⟩ := hrel
      obtain ⟨cs, l1, l2, l3, l4, l5⟩ := HO.out.l
      have f0 : wr.cell? ⟨lb, 0, none⟩ = some (.slice (some ⟨db, 0, none⟩) n n) := (blk_cell l1 0).trans l2
      have f1 : wr.cell? ⟨lb, 1, none⟩ = some (.slice (some ⟨tb, 0, none⟩) n n) := (blk_cell l1 1).trans l3
      have f3 : wr.cell? ⟨w.heap.size, 3, none⟩ = some (.int .i64 P) := (blk_cell BXr.out 3).trans rfl
      have HL := Aside0.mk l1
      clear l1 l2 l3 l4 l5
      have x1 : db ≠ lb := blk_ne HO.out.d HL.out (by decide)
      have x2 : tb ≠ lb := blk_ne HO.out.t HL.out (by decide)
      have x3 : db ≠ tb := blk_ne HO.out.d HO.out.t (by decide)
      have x4 : db ≠ w.heap.size := blk_ne HO.out.d BXr.out (by decide)
      have x5 : tb ≠ w.heap.size := blk_ne HO.out.t BXr.out (by decide)
      by_cases hlt : i < 4
      · have hld : P + i < (store_wr data P 0 i).length := by rw [store_wr_length]; have := H.out.dl; omega
        have hlo : P + i < (store_on set P i).length := by rw [store_on_length]; have := H.out.tl; omega
        have ft : wr.cell? ⟨tb, P + i, none⟩ = some (.bool (store_on set P i)[P + i]) := (blk_cell HO.out.t _).trans (by simp [bools, hlo])
        have fd : wr.cell? ⟨db, P + i, none⟩ = some (.int .u8 (store_wr data P 0 i)[P + i]) := (blk_cell HO.out.d _).trans (by simp [nums, hld])
        have zt := blk_frozen HO.out.t (P + i)
        have zd := blk_frozen HO.out.d (P + i)
        have q1 : (0 : Int) ≤ ((P + i : Nat) : Int) := Int.natCast_nonneg _
        have q2 : ((P + i : Nat) : Int) < (n : Int) := by omega
        have s1 : IntKind.i64.wrap ((P : Int) + (i : Int)) = ((P + i : Nat) : Int) := (IntWalk.i64_in _ (by omega)).trans (by omega)
        have s2 : IntKind.i64.wrap (8 * (i : Int)) = ((8 * i : Nat) : Int) := (IntWalk.i64_in _ (by omega)).trans (by omega)
        have s3 : IntKind.i64.wrap ((i : Int) + 1) = ((i + 1 : Nat) : Int) := (IntWalk.i64_in _ (by omega)).trans (by omega)
        have q3 : (0 : Int) ≤ ((8 * i : Nat) : Int) := Int.natCast_nonneg _
        obtain ⟨oldt, eot⟩ : ∃ o, o = (store_on set P i)[P + i] := ⟨_, rfl⟩
        obtain ⟨oldd, eod⟩ : ∃ o, o = (store_wr data P 0 i)[P + i] := ⟨_, rfl⟩
        rw [← eot] at ft
        rw [← eod] at fd
        clear eot eod hld hlo
        go_wp2
        go_big_region
        go_wp2
        go_roundg (gk - 1)
        case measure => have := HK.out; omega
        case rel =>
          have HO2 := (HO.out.putD (P + i) 0)
          refine ⟨i + 1, by go_num, ⟨by have := HK.out; omega⟩, by omega, ⟨by have ew : store_wr data P 0 (i + 1) = (store_wr data P 0 i).set (P + i) 0 := (by simp [store_wr]); rw [ew]; exact (HO2.putT (P + i) true).drew⟩, ⟨?_⟩, ⟨?_⟩, ⟨?_⟩⟩
          · exact blk_far (blk_far BXr.out (p := ⟨db, P + i, none⟩) (Ne.symm x4) _) (p := ⟨tb, P + i, none⟩) (Ne.symm x5) _
          · exact (KPr.out.trans (store_Kept.set HO.out.d (.inr (.inl rfl)) _)).trans (store_Kept.set HO2.t (.inr (.inr rfl)) _)
          · simpa [World.setCell] using SZr.out
      · have hi4 : i = 4 := by omega
        subst hi4
        go_wp2
        go_ret
        exact ⟨rfl, b, HO.out, KPr.out, SZr.out⟩

  · go_upto_region 10 with fail
    have HO := H2
    have BXr := BX2
    have BYr := BY2
    have KPr := KP2
    have SZr := SZ2
    clear f2 z2 n1 HL
    obtain ⟨w3, eW⟩ : ∃ w3, w3 = w2 := ⟨_, rfl⟩
    rw [← eW] at HO BXr BYr KPr SZr
    subst eW
    obtain ⟨cs, l1, l2, l3, l4, l5⟩ := HO.out.l
    have f2 : w3.cell? ⟨lb, 2, none⟩ = some (.map (some b)) := (blk_cell l1 2).trans l4
    have f3 : w3.cell? ⟨w.heap.size, 3, none⟩ = some (.int .i64 P) := (blk_cell BXr.out 3).trans rfl
    have v1 : w3.cell? ⟨w.heap.size + 1, 1, none⟩ = some (.int .i64 q.f0) := (blk_cell BYr.out 1).trans rfl
    have v2 : w3.cell? ⟨w.heap.size + 1, 2, none⟩ = some (.int .i64 q.f1) := (blk_cell BYr.out 2).trans rfl
    have v3 : w3.cell? ⟨w.heap.size + 1, 3, none⟩ = some (.int .i64 q.f2) := (blk_cell BYr.out 3).trans rfl
    have v4 : w3.cell? ⟨w.heap.size + 1, 4, none⟩ = some (.int .i64 q.f3) := (blk_cell BYr.out 4).trans rfl
    clear l1 l2 l3 l4 l5
    go_still_tail 8, (by kernel_rfl)
    change wpList _ _ _ _ _ w3.drew
    obtain ⟨b', eb', hb0, D, hown, hmap, hat⟩ : ∃ b', some b = some b' ∧ w0.heap.size ≤ b' ∧ store_Map w3 b' m (store_gone g ((P : Int) - 3) ((P : Int) + 4)) := by
      rcases HO.out.p with ⟨h, _⟩ | h
      · cases h
      · exact h
    injection eb' with eb'
    subst eb'
    have HOWN := Aside0.mk hown.drew
    clear hown
    go_upto_block 99 with (at_mapUpdate; refine wpList_mapUpdate_own _ rfl _ _ _ 57 rfl 3 24 store_law Try.underlying57 store_rd b m D rfl HOWN.out (by unfold maxLen; omega) _ _ (.int .i64 (P : Int)) rfl rfl (Go.Maps.keyOf_int_mk Try.underlying3 (WalkArith.wf_i64 (by omega))) (store_enc q) [] (store_rd_val q) ?_; intro w4 hown4 hgrow4; have HO4 := Aside0.mk (HO.out.drew.turned hgrow4 (store_Map.not ⟨D, HOWN.out, hmap, hat⟩) (Below.grown (below_drew HO.out.below) hgrow4 (below_drew HO.out.below).size (by intro k e; injection e with e; subst e; exact hb0)) (m' := m + 1) (g' := store_with (store_gone g ((P : Int) - 3) ((P : Int) + 4)) P q) (.inr ⟨b, rfl, hb0, _, hown4, hmap.put _ _, fun y => (by
      by_cases e : y = (P : Int)
      · subst e
        rw [Go.Maps.atKey_put_same hmap (by simp [WideAt.IsKeyLit])]; unfold store_with; rw [if_pos rfl]
      · rw [Go.Maps.atKey_put_other (by intro hh; injection hh with _ hh; exact e hh), hat y]; unfold store_with; rw [if_neg e])⟩)); have KP4 := Aside0.mk ((show store_Kept w w3.drew from KPr.out).trans (store_Kept.grown hgrow4 (store_Map.not ⟨D, HOWN.out, hmap, hat⟩))); have BX4 := Aside0.mk (store_Kept.grown hgrow4 (store_Map.not ⟨D, HOWN.out, hmap, hat⟩) _ _ _ (show w3.drew.heap[w.heap.size]? = some (.cells #[.int .i64 1, .int .i64 p1, .int .i64 p2, .int .i64 P] 24 (0, 0)) from BXr.out) (by decide) (by decide) (by decide)); have SZ4 := Nat.le_trans (show w.heap.size ≤ w3.drew.heap.size from SZr) hgrow4.4; clear hown4 hgrow4)
    go_loopg [52] 4 (fun kq v52 w' => ∃ i : Nat, v52 = .int .i64 i ∧ Aside0 (kq + i = 4) ∧ i ≤ 4 ∧ Aside0 (store_Ob w0 w' sb lb cap db tb n (some b) (m + 1) (store_with (store_gone g ((P : Int) - 3) ((P : Int) + 4)) P q) (store_wr data P 0 i) (store_on set P i)) ∧ Aside0 (w'.heap[w.heap.size]? = some (.cells #[.int .i64 1, .int .i64 p1, .int .i64 p2, .int .i64 P] 24 (0, 0))) ∧ Aside0 (store_Kept w w') ∧ Aside0 (w.heap.size ≤ w'.heap.size))
    case atStart => exact ⟨0, rfl, ⟨rfl⟩, by omega, HO4, BX4, KP4, ⟨SZ4⟩⟩
    case round =>
      obtain ⟨i, rfl, HK, hi, HO, BXr, KPr, SZr⟩ := hrel
      obtain ⟨cs, l1, l2, l3, l4, l5⟩ := HO.out.l
      have f0 : wr.cell? ⟨lb, 0, none⟩ = some (.slice (some ⟨db, 0, none⟩) n n) := (blk_cell l1 0).trans l2
      have f1 : wr.cell? ⟨lb, 1, none⟩ = some (.slice (some ⟨tb, 0, none⟩) n n) := (blk_cell l1 1).trans l3
      have f3 : wr.cell? ⟨w.heap.size, 3, none⟩ = some (.int .i64 P) := (blk_cell BXr.out 3).trans rfl
      have HL := Aside0.mk l1
      clear l1 l2 l3 l4 l5
      have x1 : db ≠ lb := blk_ne HO.out.d HL.out (by decide)
      have x2 : tb ≠ lb := blk_ne HO.out.t HL.out (by decide)
      have x3 : db ≠ tb := blk_ne HO.out.d HO.out.t (by decide)
      have x4 : db ≠ w.heap.size := blk_ne HO.out.d BXr.out (by decide)
      have x5 : tb ≠ w.heap.size := blk_ne HO.out.t BXr.out (by decide)
      by_cases hlt : i < 4
      · have hld : P + i < (store_wr data P 0 i).length := by rw [store_wr_length]; have := H.out.dl; omega
        have hlo : P + i < (store_on set P i).length := by rw [store_on_length]; have := H.out.tl; omega
        have ft : wr.cell? ⟨tb, P + i, none⟩ = some (.bool (store_on set P i)[P + i]) := (blk_cell HO.out.t _).trans (by simp [bools, hlo])
        have fd : wr.cell? ⟨db, P + i, none⟩ = some (.int .u8 (store_wr data P 0 i)[P + i]) := (blk_cell HO.out.d _).trans (by simp [nums, hld])
        have zt := blk_frozen HO.out.t (P + i)
        have zd := blk_frozen HO.out.d (P + i)
        have q1 : (0 : Int) ≤ ((P + i : Nat) : Int) := Int.natCast_nonneg _
        have q2 : ((P + i : Nat) : Int) < (n : Int) := by omega
        have s1 : IntKind.i64.wrap ((P : Int) + (i : Int)) = ((P + i : Nat) : Int) := (IntWalk.i64_in _ (by omega)).trans (by omega)
        have s2 : IntKind.i64.wrap (8 * (i : Int)) = ((8 * i : Nat) : Int) := (IntWalk.i64_in _ (by omega)).trans (by omega)
        have s3 : IntKind.i64.wrap ((i : Int) + 1) = ((i + 1 : Nat) : Int) := (IntWalk.i64_in _ (by omega)).trans (by omega)
        have q3 : (0 : Int) ≤ ((8 * i : Nat) : Int) := Int.natCast_nonneg _
        obtain ⟨oldt, eot⟩ : ∃ o, o = (store_on set P i)[P + i] := ⟨_, rfl⟩
        obtain ⟨oldd, eod⟩ : ∃ o, o = (store_wr data P 0 i)[P + i] := ⟨_, rfl⟩
        rw [← eot] at ft
        rw [← eod] at fd
        clear eot eod hld hlo
        go_wp2
        go_big_region
        go_wp2
        go_roundg (gk - 1)
        case measure => have := HK.out; omega
        case rel =>
          have HO2 := (HO.out.putD (P + i) 0)
          refine ⟨i + 1, by go_num, ⟨by have := HK.out; omega⟩, by omega, ⟨by have ew : store_wr data P 0 (i + 1) = (store_wr data P 0 i).set (P + i) 0 := (by simp [store_wr]); rw [ew]; exact (HO2.putT (P + i) true).drew⟩, ⟨?_⟩, ⟨?_⟩, ⟨?_⟩⟩
          · exact blk_far (blk_far BXr.out (p := ⟨db, P + i, none⟩) (Ne.symm x4) _) (p := ⟨tb, P + i, none⟩) (Ne.symm x5) _
          · exact (KPr.out.trans (store_Kept.set HO.out.d (.inr (.inl rfl)) _)).trans (store_Kept.set HO2.t (.inr (.inr rfl)) _)
          · simpa [World.setCell] using SZr.out
      · have hi4 : i = 4 := by omega
        subst hi4
        go_wp2
        go_ret
        exact ⟨rfl, b, HO.out, KPr.out, SZr.out⟩

end Go.Proofs.Ytplafnaocgifoaa.St
