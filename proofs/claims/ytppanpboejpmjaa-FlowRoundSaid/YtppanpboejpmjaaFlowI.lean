/- FlowI: functions of the program walked by hand, and what they come to. -/
import Derived.Test.YtppanpboejpmjaaProg
import Derived.Below
import Derived.Deep.Draws
import Derived.Deep.AppendLies
import Derived.Maps.AppendAt
import Derived.OwnWalk
import Derived.Laws.BytesArg
import Derived.Laws.MakeOwn
import Derived.Laws.OwnMore
import Derived.Deep.OwnRows
import Derived.Tactics
import Derived.Lib.ConvBytes
import Derived.Laws.Slices
import Derived.WalkKit
import Derived.KernelRfl
import Derived.RowKit3
import Derived.Deep.LoopGhost
import Derived.Deep.QuietTactic
import Derived.BigQuiet
import Derived.WideLaws
import Derived.Deep.DeepCutAuto
import Derived.Deep.CutBlock
import Derived.Deep.RegionHeld3
import Derived.Laws.Rows
import Derived.Lib.AppendStr
import Derived.ArgAppend
import Derived.Laws.IdiomCopy
import Derived.OrdersHeld
import Derived.Laws.BitsLemmas
import Derived.RowKit
import Derived.Shelf.SlicesE.DeleteFunc
import Derived.Test.YtppanpboejpmjaaWWords
import Derived.Test.YtppanpboejpmjaaWLast
import Derived.Test.YtppanpboejpmjaaWTab
import Derived.Test.YtppanpboejpmjaaWFour
import Derived.Test.YtppanpboejpmjaaWQPut
import Derived.Test.YtppanpboejpmjaaWApart
import Derived.Test.YtppanpboejpmjaaWArr
import Derived.Test.YtppanpboejpmjaaWZeros
import Derived.Test.YtppanpboejpmjaaWFoot
import Derived.Test.YtppanpboejpmjaaWKept
import Derived.Test.YtppanpboejpmjaaWShare
import Derived.Test.YtppanpboejpmjaaWN
import Derived.Test.YtppanpboejpmjaaWFootNe
import Derived.Test.YtppanpboejpmjaaWAt
import Derived.Test.YtppanpboejpmjaaWEqStruct
import Derived.Test.YtppanpboejpmjaaWRepsOne
import Derived.Test.YtppanpboejpmjaaWInv
import Derived.Test.YtppanpboejpmjaaWInvWords
import Derived.Test.YtppanpboejpmjaaWGuard
import Derived.Test.YtppanpboejpmjaaWNEv
import Derived.Test.YtppanpboejpmjaaWMore
import Derived.Test.YtppanpboejpmjaaTr0
import Derived.Test.YtppanpboejpmjaaFlowH
import Derived.Outline
set_option linter.all false
namespace Go.Proofs.Ytppanpboejpmjaa.Tr
open Go.RowKit Go.Proofs.YtppanpboejpmjaaW.PrintWords Go.Proofs.YtppanpboejpmjaaW.PrintLast Go.Proofs.YtppanpboejpmjaaW.PrintMore
set_option linter.unusedVariables false
/-- a row of a table of bools, as a row of the call's own -/
theorem flow_rowR {w : World} {base g : Nat} {l : List Bool} (h : w.heap[g]? = some (.cells (bools l).toArray 4 (0, 0))) (hg : base ≤ g) (hl : l.length ≤ 4000000000000) : Kd.R Kd.bool 4 w base (fun k => k = g) (.slice (some ⟨g, 0, none⟩) l.length l.length) l :=
  Kd.R_of_own (enc := Value.bool) (h1 := fun _ => rfl) ⟨by simp [encs], .inr ⟨g, l.length, _, rfl, hg, h, Nat.le_refl _, by unfold maxLen; omega, by simp [bools], by
    rw [Nat.mul_one]
    exact List.take_of_length_le (by simp [bools])⟩⟩ (fun k hk => by injection hk with hk; exact hk.symm)
theorem flow_rowB {w : World} {base g n : Nat} {l : List Bool} {ok : Nat → Prop} (h : Kd.R Kd.bool 4 w base ok (.slice (some ⟨g, 0, none⟩) n n) l) : l.length = n ∧ w.heap[g]? = some (.cells (bools l).toArray 4 (0, 0)) := by
  have hn := (Kd.R_reads' h).1
  obtain ⟨h1, ⟨ev, _⟩ | ⟨g', cap, cur, ev, h2, h3, h4, h5, h6, h7⟩⟩ := Kd.own_of_R h
  · cases ev
  · injection ev with ev en ec
    injection ev with ev; injection ev with ev
    subst ev; subst ec
    refine ⟨hn.symm, ?_⟩
    have hc : cur = (bools l).toArray := by
      apply Array.ext'
      rw [Nat.mul_one] at h6 h7
      have : cur.toList.take l.length = cur.toList := List.take_of_length_le (by rw [Array.length_toList]; omega)
      rw [this] at h7
      rw [h7]; rfl
    rw [← hc]; exact h3
/-- two tables of bools: the rows' blocks Gi, Go, what they hold I, O -/
structure flow_Lv (w0 w : World) (vi vo : Value) (Gi Go : List Nat) (I O : List (List Bool)) (n : Nat) : Prop where
  oi : w.ownsRow w0.heap.size 41 1 vi Gi.length (Gi.map fun g => .slice (some ⟨g, 0, none⟩) n n)
  oo : w.ownsRow w0.heap.size 41 1 vo Go.length (Go.map fun g => .slice (some ⟨g, 0, none⟩) n n)
  li : Gi.length = I.length
  lo : Go.length = O.length
  ri : ∀ (i g : Nat) (l : List Bool), Gi[i]? = some g → I[i]? = some l → l.length = n ∧ w.heap[g]? = some (.cells (bools l).toArray 4 (0, 0))
  ro : ∀ (i g : Nat) (l : List Bool), Go[i]? = some g → O[i]? = some l → l.length = n ∧ w.heap[g]? = some (.cells (bools l).toArray 4 (0, 0))
  nd : (Gi ++ Go).Nodup
  gi : ∀ g, g ∈ Gi ++ Go → w0.heap.size ≤ g ∧ g < w.heap.size
  io : ∀ k, vi.ownBlock = some k → vo.ownBlock ≠ some k
  below : Below w0.heap.size w0 w
theorem flow_Lv.step {w0 w w' : World} {vi vo : Value} {Gi Go : List Nat} {I O : List (List Bool)} {n : Nat} (h : flow_Lv w0 w vi vo Gi Go I O n) (hb : Below w.heap.size w w') : flow_Lv w0 w' vi vo Gi Go I O n where
  oi := own_other h.oi (grown_below hb) (by simp)
  oo := own_other h.oo (grown_below hb) (by simp)
  li := h.li
  lo := h.lo
  ri := fun i g l a b => ⟨(h.ri i g l a b).1, blk_below (h.ri i g l a b).2 hb⟩
  ro := fun i g l a b => ⟨(h.ro i g l a b).1, blk_below (h.ro i g l a b).2 hb⟩
  nd := h.nd
  gi := fun g hg => ⟨(h.gi g hg).1, Nat.lt_of_lt_of_le (h.gi g hg).2 hb.size⟩
  io := h.io
  below := below_step h.below hb
theorem flow_Lv.inRow {w0 w : World} {vi vo : Value} {Gi Go : List Nat} {I O : List (List Bool)} {n : Nat} (h : flow_Lv w0 w vi vo Gi Go I O n) {i g : Nat} {l : List Bool} (hg : Gi[i]? = some g) (hl : I[i]? = some l) (hn : n ≤ 4000000000000) : Kd.R Kd.bool 4 w w0.heap.size (fun k => k = g) (.slice (some ⟨g, 0, none⟩) n n) l := by
  obtain ⟨h1, h2⟩ := h.ri i g l hg hl
  have := flow_rowR h2 (h.gi g (List.mem_append_left _ (List.mem_of_getElem? hg))).1 (by omega)
  rw [h1] at this; exact this
theorem flow_Lv.outRow {w0 w : World} {vi vo : Value} {Gi Go : List Nat} {I O : List (List Bool)} {n : Nat} (h : flow_Lv w0 w vi vo Gi Go I O n) {i g : Nat} {l : List Bool} (hg : Go[i]? = some g) (hl : O[i]? = some l) (hn : n ≤ 4000000000000) : Kd.R Kd.bool 4 w w0.heap.size (fun k => k = g) (.slice (some ⟨g, 0, none⟩) n n) l := by
  obtain ⟨h1, h2⟩ := h.ro i g l hg hl
  have := flow_rowR h2 (h.gi g (List.mem_append_right _ (List.mem_of_getElem? hg))).1 (by omega)
  rw [h1] at this; exact this
theorem flow_Lv.other {w0 w w' : World} {vi vo : Value} {Gi Go : List Nat} {I O : List (List Bool)} {n g : Nat} (h : flow_Lv w0 w vi vo Gi Go I O n) (hg : g ∈ Gi ++ Go) (hgr : w.grownBy w' (some g)) : (w'.ownsRow w0.heap.size 41 1 vi Gi.length (Gi.map fun g => .slice (some ⟨g, 0, none⟩) n n)) ∧ (w'.ownsRow w0.heap.size 41 1 vo Go.length (Go.map fun g => .slice (some ⟨g, 0, none⟩) n n)) := by
  have hb : ∃ l : List Bool, w.heap[g]? = some (.cells (bools l).toArray 4 (0, 0)) := by
    rcases List.mem_append.1 hg with hm | hm
    · obtain ⟨i, hi⟩ := List.mem_iff_getElem?.1 hm
      have hlt : i < I.length := by rw [← h.li]; exact (List.getElem?_eq_some_iff.1 hi).1
      exact ⟨_, (h.ri i g _ hi (List.getElem?_eq_getElem hlt)).2⟩
    · obtain ⟨i, hi⟩ := List.mem_iff_getElem?.1 hm
      have hlt : i < O.length := by rw [← h.lo]; exact (List.getElem?_eq_some_iff.1 hi).1
      exact ⟨_, (h.ro i g _ hi (List.getElem?_eq_getElem hlt)).2⟩
  obtain ⟨l, hl⟩ := hb
  exact ⟨own_other h.oi hgr (own_ne_type h.oi hl (by decide)), own_other h.oo hgr (own_ne_type h.oo hl (by decide))⟩
/-- a row of the first table turns -/
theorem flow_Lv.setIn {w0 w w' : World} {vi vo : Value} {Gi Go : List Nat} {I O : List (List Bool)} {n i g : Nat} {r : List Bool} {ok : Nat → Prop} (h : flow_Lv w0 w vi vo Gi Go I O n) (hg : Gi[i]? = some g) (hr : Kd.R Kd.bool 4 w' w0.heap.size ok (.slice (some ⟨g, 0, none⟩) n n) r) (hk : Kept w w' (fun k => k = g)) (hB : Below w0.heap.size w0 w') : flow_Lv w0 w' vi vo Gi Go (I.set i r) O n := by
  have hgr : w.grownBy w' (some g) := grown_kept h.below hB (hk.mono (fun k e => by rw [e]))
  have hm : g ∈ Gi ++ Go := List.mem_append_left _ (List.mem_of_getElem? hg)
  have hilt := (List.getElem?_eq_some_iff.1 hg).1
  have hnd := List.nodup_append.1 h.nd
  refine ⟨(h.other hm hgr).1, (h.other hm hgr).2, by rw [List.length_set]; exact h.li, h.lo, ?_, ?_, h.nd, fun g' hg' => ⟨(h.gi g' hg').1, Nat.lt_of_lt_of_le (h.gi g' hg').2 hk.1⟩, h.io, hB⟩
  · intro j g' l hj hl
    by_cases e : j = i
    · subst e
      rw [hg] at hj; injection hj with hj; subst hj
      rw [List.getElem?_set_self (by rw [← h.li]; exact hilt)] at hl
      injection hl with hl; subst hl
      exact flow_rowB hr
    · rw [List.getElem?_set_ne (Ne.symm e)] at hl
      have hne : g' ≠ g := by
        intro eg; subst eg
        exact e ((List.getElem?_inj (List.getElem?_eq_some_iff.1 hj).1 hnd.1).1 (hj.trans hg.symm))
      exact ⟨(h.ri j g' l hj hl).1, blk_other (h.ri j g' l hj hl).2 hgr (by intro eg; injection eg with eg; exact hne eg)⟩
  · intro j g' l hj hl
    have hne : g' ≠ g := by
      intro eg; subst eg
      exact hnd.2.2 g' (List.mem_of_getElem? hg) g' (List.mem_of_getElem? hj) rfl
    exact ⟨(h.ro j g' l hj hl).1, blk_other (h.ro j g' l hj hl).2 hgr (by intro eg; injection eg with eg; exact hne eg)⟩
/-- a row of the second table turns -/
theorem flow_Lv.setOut {w0 w w' : World} {vi vo : Value} {Gi Go : List Nat} {I O : List (List Bool)} {n i g : Nat} {r : List Bool} {ok : Nat → Prop} (h : flow_Lv w0 w vi vo Gi Go I O n) (hg : Go[i]? = some g) (hr : Kd.R Kd.bool 4 w' w0.heap.size ok (.slice (some ⟨g, 0, none⟩) n n) r) (hk : Kept w w' (fun k => k = g)) (hB : Below w0.heap.size w0 w') : flow_Lv w0 w' vi vo Gi Go I (O.set i r) n := by
  have hgr : w.grownBy w' (some g) := grown_kept h.below hB (hk.mono (fun k e => by rw [e]))
  have hm : g ∈ Gi ++ Go := List.mem_append_right _ (List.mem_of_getElem? hg)
  have hilt := (List.getElem?_eq_some_iff.1 hg).1
  have hnd := List.nodup_append.1 h.nd
  refine ⟨(h.other hm hgr).1, (h.other hm hgr).2, h.li, by rw [List.length_set]; exact h.lo, ?_, ?_, h.nd, fun g' hg' => ⟨(h.gi g' hg').1, Nat.lt_of_lt_of_le (h.gi g' hg').2 hk.1⟩, h.io, hB⟩
  · intro j g' l hj hl
    have hne : g' ≠ g := by
      intro eg; subst eg
      exact hnd.2.2 g' (List.mem_of_getElem? hj) g' (List.mem_of_getElem? hg) rfl
    exact ⟨(h.ri j g' l hj hl).1, blk_other (h.ri j g' l hj hl).2 hgr (by intro eg; injection eg with eg; exact hne eg)⟩
  · intro j g' l hj hl
    by_cases e : j = i
    · subst e
      rw [hg] at hj; injection hj with hj; subst hj
      rw [List.getElem?_set_self (by rw [← h.lo]; exact hilt)] at hl
      injection hl with hl; subst hl
      exact flow_rowB hr
    · rw [List.getElem?_set_ne (Ne.symm e)] at hl
      have hne : g' ≠ g := by
        intro eg; subst eg
        exact e ((List.getElem?_inj (List.getElem?_eq_some_iff.1 hj).1 hnd.2.1).1 (hj.trans hg.symm))
      exact ⟨(h.ro j g' l hj hl).1, blk_other (h.ro j g' l hj hl).2 hgr (by intro eg; injection eg with eg; exact hne eg)⟩
end Go.Proofs.Ytppanpboejpmjaa.Tr
