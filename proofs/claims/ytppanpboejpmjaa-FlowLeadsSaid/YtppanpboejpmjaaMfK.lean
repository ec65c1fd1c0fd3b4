/- Which blocks lead to which, and which are reached: the compiler's and the reference's; no program in sight. -/
import Derived.Test.YtppanpboejpmjaaMfJ
import Derived.Test.YtppanpboejpmjaaFlowH
import Derived.Test.YtppanpboejpmjaaTr16
set_option linter.all false
namespace Go.Proofs.Ytppanpboejpmjaa.Mf
open Go Go.RowKit Go.Proofs.Ytppanpboejpmjaa.Tr Go.Proofs.YtppanpboejpmjaaW.PrintWords Go.Proofs.YtppanpboejpmjaaW.PrintLast

variable (a0 : ByteArray) (a1 : Bool) (a2 a3 : Int) (l4 : List S76)
theorem succ_nodup (l : List S45) (n : Nat) : (succ l n).Nodup := by
  have h : (outsOf l n).Nodup := by
    have hb : (baseOuts (l.getD n z45)).Nodup := by
      generalize l.getD n z45 = b
      unfold baseOuts
      split
      · simp
      · split
        · split
          · simp
          · rename_i h; simp [h]
        · simp
    exact List.Pairwise.filter _ hb
  unfold succ
  have hm : ∀ x ∈ outsOf l n, 0 ≤ x := fun x hx => (outs_mem hx).1
  generalize outsOf l n = o at h hm
  induction o with
  | nil => simp
  | cons x o ih =>
    rw [List.nodup_cons] at h
    rw [List.map_cons, List.nodup_cons]
    refine ⟨fun hx => ?_, ih h.2 (fun y hy => hm y (List.mem_cons_of_mem _ hy))⟩
    obtain ⟨y, hy, e⟩ := List.mem_map.1 hx
    have h1 := hm x (List.mem_cons_self ..)
    have h2 := hm y (List.mem_cons_of_mem _ hy)
    have : x = y := by omega
    subst this; exact h.1 hy
theorem leads_ev (l : List S45) (n t : Nat) (hn : n < l.length) : Ev (fun k => rushlightref16_leads.f k a0 a1 a2 a3 l4 l (n : Int) (t : Int)) (decide (t ∈ succ l n)) := by
  unfold rushlightref16_leads.f
  refine Ev.bind (refOuts a0 a1 a2 a3 l4 l n hn) ?_
  have e : decide (t ∈ succ l n) = decide ((t : Int) ∈ outsOf l n) := decide_eq_decide.2 succ_mem
  rw [e]
  have hl := outs_len l n
  generalize outsOf l n = o at hl
  have loop : ∀ (d i : Nat), i + d = o.length → Ev (fun k => rushlightref16_leads.l0 k (t : Int) o (i : Int)) (decide ((t : Int) ∈ o.drop i)) := by
    intro d
    induction d with
    | zero =>
      intro i hi
      rw [List.drop_of_length_le (by omega)]
      refine Ev.const fun k => ?_
      simp only [rushlightref16_leads.l0]
      rw [if_neg (by omega)]; simp
    | succ d ih =>
      intro i hi
      obtain ⟨x, hx, e⟩ := drop_at (l := o) (i := i) (by omega)
      rw [e]
      by_cases h : x = (t : Int)
      · refine Ev.const fun k => ?_
        simp only [rushlightref16_leads.l0]
        rw [if_pos (by omega), if_pos (by omega), atn hx, if_pos h]; simp [h]
      · have e2 : decide ((t : Int) ∈ x :: o.drop (i + 1)) = decide ((t : Int) ∈ o.drop (i + 1)) := by
          apply decide_eq_decide.2
          rw [List.mem_cons]
          constructor
          · rintro (h' | h'); exact absurd h'.symm h; exact h'
          · exact .inr
        rw [e2]
        refine Ev.step (f := fun k => rushlightref16_leads.l0 k (t : Int) o ((i + 1 : Nat) : Int)) (fun k => ?_) (ih (i + 1) (by omega))
        simp only [rushlightref16_leads.l0]
        rw [if_pos (by omega), if_pos (by omega), atn hx, if_neg h, next_i (by omega)]
  exact loop o.length 0 (by omega)
theorem getD_at {α : Type} {l : List α} {m : Nat} {d : α} (h : m < l.length) : l[m]? = some (l.getD m d) := by
  rw [List.getD_eq_getElem?_getD, List.getElem?_eq_getElem h]; rfl
/-! #### which blocks lead to one -/
def predsTo (l : List S45) (t n : Nat) : List Nat := (List.range n).filter (fun m => decide (t ∈ succ l m))
theorem predsTo_len (l : List S45) (t n : Nat) : (predsTo l t n).length ≤ n := by
  unfold predsTo
  have := List.length_filter_le (fun m => decide (t ∈ succ l m)) (List.range n)
  simpa using this
theorem predsTo_succ (l : List S45) (t n : Nat) : predsTo l t (n + 1) = predsTo l t n ++ (if t ∈ succ l n then [n] else []) := by
  unfold predsTo
  rw [List.range_succ, List.filter_append]
  congr 1
  by_cases h : t ∈ succ l n <;> simp [h]
theorem refPreds_ev (l : List S45) (hl : l.length ≤ 40) (t : Nat) : Ev (fun k => rushlightref16_Preds.f k a0 a1 a2 a3 l4 l (t : Int)) (zi (predsTo l t l.length)) := by
  have loop : ∀ (d i : Nat), i + d = l.length → Ev (fun k => rushlightref16_Preds.l0 k (t : Int) (zi (predsTo l t i)) (i : Int) a0 a1 a2 a3 l4 l) (zi (predsTo l t l.length)) := by
    intro d
    induction d with
    | zero =>
      intro i hi
      obtain rfl : i = l.length := by omega
      refine Ev.const fun k => ?_
      simp only [rushlightref16_Preds.l0]
      rw [if_neg (by omega)]
    | succ d ih =>
      intro i hi
      have hp := predsTo_len l t i
      have := ih (i + 1) (by omega)
      rw [predsTo_succ] at this
      refine Ev.step (f := fun k => (rushlightref16_leads.f k a0 a1 a2 a3 l4 l (i : Int) (t : Int)).bind fun b => if b = true then (rushlightref16_Preds.l0 k (t : Int) (zi (predsTo l t i) ++ [(i : Int)]) ((i + 1 : Nat) : Int) a0 a1 a2 a3 l4 l) else (rushlightref16_Preds.l0 k (t : Int) (zi (predsTo l t i)) ((i + 1 : Nat) : Int) a0 a1 a2 a3 l4 l)) (fun k => ?_) (Ev.bind (leads_ev a0 a1 a2 a3 l4 l i t (by omega)) ?_)
      · simp only [rushlightref16_Preds.l0]
        rw [if_pos (by omega), next_i (by omega), if_pos (by rw [zi_len]; omega)]
      · by_cases h : t ∈ succ l i
        · simp only [decide_eq_true h, if_true]
          rw [if_pos h, zi_app] at this; exact this
        · simp only [decide_eq_false h, Bool.false_eq_true, if_false]
          rw [if_neg h, List.append_nil] at this; exact this
  exact loop l.length 0 (by omega)
def tableAt (l : List S45) (n j : Nat) : List (List Int) := (List.range l.length).map (fun t => zi (predsTo l t n ++ (if t ∈ (succ l n).take j then [n] else [])))
theorem table_get (l : List S45) (n j t : Nat) (ht : t < l.length) : (tableAt l n j).getD t [] = zi (predsTo l t n ++ (if t ∈ (succ l n).take j then [n] else [])) := by
  unfold tableAt
  rw [List.getD_eq_getElem?_getD, List.getElem?_map, List.getElem?_range ht]; rfl
theorem table_len (l : List S45) (n j : Nat) : (tableAt l n j).length = l.length := by unfold tableAt; simp
theorem table_next (l : List S45) (n : Nat) : tableAt l n (succ l n).length = tableAt l (n + 1) 0 := by
  unfold tableAt
  apply List.map_congr_left
  intro t _
  rw [List.take_length, predsTo_succ, List.take_zero]; simp
theorem table_step (l : List S45) (n j t : Nat) (ht : t < l.length) (hj : (succ l n)[j]? = some t) : (tableAt l n j).set t ((tableAt l n j).getD t [] ++ [(n : Int)]) = tableAt l n (j + 1) := by
  have hnd := succ_nodup l n
  have hnt : t ∉ (succ l n).take j := by
    intro h
    obtain ⟨i, hi⟩ := List.mem_iff_getElem?.1 h
    have hil := (List.getElem?_eq_some_iff.1 hi).1
    rw [List.length_take] at hil
    rw [List.getElem?_take_of_lt (by omega)] at hi
    have := (List.getElem?_inj (List.getElem?_eq_some_iff.1 hi).1 hnd).1 (hi.trans hj.symm)
    omega
  apply List.ext_getElem?
  intro i
  by_cases e : t = i
  · subst e
    rw [List.getElem?_set_self (by rw [table_len]; exact ht), table_get l n j t ht]
    unfold tableAt
    rw [List.getElem?_map, List.getElem?_range ht, Option.map_some, List.take_succ, hj]
    simp [hnt, zi]
  · rw [List.getElem?_set_ne e]
    unfold tableAt
    rw [List.getElem?_map, List.getElem?_map]
    by_cases hi : i < l.length
    · rw [List.getElem?_range hi, Option.map_some, Option.map_some, List.take_succ, hj]
      have : (i ∈ (succ l n).take j ++ (some t).toList) ↔ i ∈ (succ l n).take j := by simp; exact fun h => absurd h.symm e
      simp only [this]
    · rw [List.getElem?_eq_none (by simp; omega)]; rfl
theorem flowPreds_ev (l : List S45) (hl : l.length ≤ 40) : Ev (fun k => flow_Preds.f k a0 a1 a2 a3 l4 l) (tableAt l l.length 0) := by
  unfold flow_Preds.f
  simp only [if_pos (show (0 : Int) ≤ (l.length : Int) by omega), Int.toNat_natCast, if_pos (show l.length ≤ 11728124029610 by omega)]
  have h0 : List.replicate l.length [] = tableAt l 0 0 := by
    unfold tableAt predsTo
    rw [List.take_zero]
    apply List.ext_getElem?
    intro i
    rw [List.getElem?_replicate, List.getElem?_map]
    by_cases hi : i < l.length
    · rw [if_pos hi, List.getElem?_range hi]; simp [zi]
    · rw [if_neg hi, List.getElem?_eq_none (by simp; omega)]; rfl
  rw [h0]
  have loop : ∀ (d n : Nat), n + d = l.length → Ev (fun k => flow_Preds.l0 k (tableAt l n 0) (l.length : Int) (n : Int) a0 a1 a2 a3 l4 l) (tableAt l l.length 0) := by
    intro d
    induction d with
    | zero =>
      intro n hn
      obtain rfl : n = l.length := by omega
      refine Ev.const fun k => ?_
      simp only [flow_Preds.l0]
      rw [if_neg (by omega)]
    | succ d ih =>
      intro n hn
      have hnl : n < l.length := by omega
      have hsl := succ_len l n
      refine Ev.step (f := fun k => (flow_outs.f k a0 a1 a2 a3 l4 l (n : Int)).bind fun t411 => (flow_Preds.l1 k (tableAt l n 0) (n : Int) (l.length : Int) (n : Int) t411 (t411.length : Int) 0 a0 a1 a2 a3 l4 l)) (fun k => ?_) (Ev.bind (flowOuts a0 a1 a2 a3 l4 l n hnl) ?_)
      · simp only [flow_Preds.l0]
        rw [if_pos (by omega)]
      · rw [← zi_succ]
        have inner : ∀ (e j : Nat), j + e = (succ l n).length → Ev (fun k => flow_Preds.l1 k (tableAt l n j) (n : Int) (l.length : Int) (n : Int) (zi (succ l n)) ((zi (succ l n)).length : Int) (j : Int) a0 a1 a2 a3 l4 l) (tableAt l l.length 0) := by
          intro e
          induction e with
          | zero =>
            intro j hj
            obtain rfl : j = (succ l n).length := by omega
            rw [table_next]
            refine Ev.step (fun k => ?_) (ih (n + 1) (by omega))
            simp only [flow_Preds.l1]
            rw [if_neg (by rw [zi_len]; omega), next_i (by omega)]
          | succ e ih2 =>
            intro j hj
            obtain ⟨t, ht, _⟩ := drop_at (l := succ l n) (i := j) (by omega)
            have htl := succ_lt (List.mem_of_getElem? ht)
            have hz : (zi (succ l n))[j]? = some (t : Int) := by unfold zi; rw [List.getElem?_map, ht]; rfl
            have hp := predsTo_len l t n
            refine Ev.step (fun k => ?_) (ih2 (j + 1) (by omega))
            simp only [flow_Preds.l1]
            have hrd : rd_L4 (tableAt l n j) (t : Int) = (tableAt l n j).getD t [] := by unfold rd_L4; rw [Int.toNat_natCast]
            rw [if_pos (by rw [zi_len]; omega), if_pos (by omega), if_pos (by rw [zi_len]; omega), atn hz, if_pos (by omega), if_pos (by rw [table_len]; omega), hrd, if_pos (by rw [table_get l n j t htl, zi_len, List.length_append]; split <;> simp <;> omega), Int.toNat_natCast, table_step l n j t htl ht, next_i (by omega)]
        exact inner (succ l n).length 0 (by omega)
  exact loop l.length 0 (by omega)
theorem same_ev (m : List Int) (hm : m.length ≤ 100000) : Ev (fun k => rushlightlaw16_same.f k m m) true := by
  unfold rushlightlaw16_same.f
  simp only [if_true]
  have loop : ∀ (d i : Nat), i + d = m.length → Ev (fun k => rushlightlaw16_same.l0 k m m (i : Int)) true := by
    intro d
    induction d with
    | zero =>
      intro i hi
      refine Ev.const fun k => ?_
      simp only [rushlightlaw16_same.l0]
      rw [if_neg (by omega)]
    | succ d ih =>
      intro i hi
      refine Ev.step (fun k => ?_) (ih (i + 1) (by omega))
      simp only [rushlightlaw16_same.l0]
      rw [if_pos (by omega), if_pos (by omega), if_pos (by omega), if_pos trivial, next_i (by omega)]
  exact loop m.length 0 (by omega)

/-! #### which blocks are reached, by rounds -/
def l2P (l : List S45) (i : Nat) : Nat → Nat → List Bool → List Bool
  | 0, _, s => s
  | d + 1, j, s => l2P l i d (j + 1) (if s.getD j false = true ∧ i ∈ succ l j then s.set i true else s)
def l1P (l : List S45) : Nat → Nat → List Bool → List Bool
  | 0, _, s => s
  | d + 1, i, s => l1P l d (i + 1) (l2P l i l.length 0 (if i = 0 then s.set 0 true else s))
def l0P (l : List S45) : Nat → List Bool → List Bool
  | 0, s => s
  | d + 1, s => l0P l d (l1P l l.length 0 s)
theorem l2P_len (l : List S45) (i : Nat) : ∀ d j s, (l2P l i d j s).length = s.length
  | 0, _, _ => rfl
  | d + 1, j, s => by rw [l2P, l2P_len l i d]; split <;> simp
theorem l1P_len (l : List S45) : ∀ d i s, (l1P l d i s).length = s.length
  | 0, _, _ => rfl
  | d + 1, i, s => by rw [l1P, l1P_len l d, l2P_len]; split <;> simp
theorem l2_ev (l : List S45) (hl : l.length ≤ 40) (r i : Nat) (hi : i < l.length) (res : List Bool) : ∀ (d j : Nat) (s : List Bool), j + d = l.length → s.length = l.length → Ev (fun k => rushlightref16_Reach.l1 k (l2P l i d j s) (r : Int) ((i + 1 : Nat) : Int) a0 a1 a2 a3 l4 l) res → Ev (fun k => rushlightref16_Reach.l2 k s (r : Int) (i : Int) (j : Int) a0 a1 a2 a3 l4 l) res := by
  intro d
  induction d with
  | zero =>
    intro j s hj hs h
    refine Ev.step (fun k => ?_) h
    simp only [rushlightref16_Reach.l2]
    rw [if_neg (by omega), next_i (by omega)]; rfl
  | succ d ih =>
    intro j s hj hs h
    rw [l2P] at h
    by_cases hsj : s.getD j false = true
    · have hat : rdOf false s (j : Int) = true := atb (by rw [getD_at (d := false) (show j < s.length by omega), hsj])
      refine Ev.step (f := fun k => (rushlightref16_leads.f k a0 a1 a2 a3 l4 l (j : Int) (i : Int)).bind fun b => if b = true then rushlightref16_Reach.l2 k (s.set i true) (r : Int) (i : Int) ((j + 1 : Nat) : Int) a0 a1 a2 a3 l4 l else rushlightref16_Reach.l2 k s (r : Int) (i : Int) ((j + 1 : Nat) : Int) a0 a1 a2 a3 l4 l) (fun k => ?_) (Ev.bind (leads_ev a0 a1 a2 a3 l4 l j i (by omega)) ?_)
      · simp only [rushlightref16_Reach.l2]
        rw [if_pos (by omega), if_pos (by omega), if_pos (by omega), hat, if_pos rfl, if_pos (by omega), if_pos (by omega), Int.toNat_natCast, next_i (by omega)]
      · by_cases hm : i ∈ succ l j
        · simp only [decide_eq_true hm, if_true]
          rw [if_pos ⟨hsj, hm⟩] at h
          exact ih (j + 1) _ (by omega) (by simpa using hs) h
        · simp only [decide_eq_false hm, Bool.false_eq_true, if_false]
          rw [if_neg (fun h => hm h.2)] at h
          exact ih (j + 1) _ (by omega) hs h
    · have hat : rdOf false s (j : Int) = false := atb (by rw [getD_at (d := false) (show j < s.length by omega)]; simpa using hsj)
      rw [if_neg (fun h => hsj h.1)] at h
      refine Ev.step (fun k => ?_) (ih (j + 1) _ (by omega) hs h)
      simp only [rushlightref16_Reach.l2]
      rw [if_pos (by omega), if_pos (by omega), if_pos (by omega), hat, if_neg (by simp), next_i (by omega)]
theorem l1_ev (l : List S45) (hl : l.length ≤ 40) (r : Nat) (hr : r ≤ 40) (res : List Bool) : ∀ (d i : Nat) (s : List Bool), i + d = l.length → s.length = l.length → Ev (fun k => rushlightref16_Reach.l0 k (l1P l d i s) ((r + 1 : Nat) : Int) a0 a1 a2 a3 l4 l) res → Ev (fun k => rushlightref16_Reach.l1 k s (r : Int) (i : Int) a0 a1 a2 a3 l4 l) res := by
  intro d
  induction d with
  | zero =>
    intro i s hi hs h
    refine Ev.step (fun k => ?_) h
    simp only [rushlightref16_Reach.l1]
    rw [if_neg (by omega), next_i (by omega)]; rfl
  | succ d ih =>
    intro i s hi hs h
    rw [l1P] at h
    have j2 : ∀ s' : List Bool, s'.length = l.length → Ev (fun k => rushlightref16_Reach.l0 k (l1P l d (i + 1) (l2P l i l.length 0 s')) ((r + 1 : Nat) : Int) a0 a1 a2 a3 l4 l) res → Ev (fun k => rushlightref16_Reach.j2 k s' (r : Int) (i : Int) a0 a1 a2 a3 l4 l) res := by
      intro s' hs' h'
      have := l2_ev a0 a1 a2 a3 l4 l hl r i (by omega) res l.length 0 s' (by omega) hs' (ih (i + 1) _ (by omega) (by rw [l2P_len]; exact hs') h')
      refine Ev.step (fun k => ?_) this
      simp only [rushlightref16_Reach.j2]; rfl
    by_cases h0 : i = 0
    · subst h0
      rw [if_pos rfl] at h
      refine Ev.step (fun k => ?_) (j2 (s.set 0 true) (by simpa using hs) h)
      simp only [rushlightref16_Reach.l1]
      rw [if_pos (by omega), if_pos (by omega), if_pos (by omega), if_pos (by omega)]; rfl
    · rw [if_neg h0] at h
      refine Ev.step (fun k => ?_) (j2 s hs h)
      simp only [rushlightref16_Reach.l1]
      rw [if_pos (by omega), if_neg (by omega)]
theorem refReach_ev (l : List S45) (hl : l.length ≤ 40) : Ev (fun k => rushlightref16_Reach.f k a0 a1 a2 a3 l4 l) (l0P l l.length (List.replicate l.length false)) := by
  unfold rushlightref16_Reach.f
  simp only [if_pos (show (0 : Int) ≤ (l.length : Int) by omega), Int.toNat_natCast, if_pos (show l.length ≤ 281474976710656 by omega)]
  have loop : ∀ (d r : Nat) (s : List Bool), r + d = l.length → s.length = l.length → Ev (fun k => rushlightref16_Reach.l0 k s (r : Int) a0 a1 a2 a3 l4 l) (l0P l d s) := by
    intro d
    induction d with
    | zero =>
      intro r s hr hs
      refine Ev.const fun k => ?_
      simp only [rushlightref16_Reach.l0]
      rw [if_neg (by omega)]; rfl
    | succ d ih =>
      intro r s hr hs
      have := l1_ev a0 a1 a2 a3 l4 l hl r (by omega) _ l.length 0 s (by omega) hs (ih (r + 1) (l1P l l.length 0 s) (by omega) (by rw [l1P_len]; exact hs))
      refine Ev.step (fun k => ?_) this
      simp only [rushlightref16_Reach.l0]
      rw [if_pos (by omega)]; rfl
  exact loop l.length 0 _ (by omega) (by simp)
/-! what a round adds -/
def Le (s s' : List Bool) : Prop := ∀ i, s.getD i false = true → s'.getD i false = true
theorem set_le {s : List Bool} {i : Nat} : Le s (s.set i true) := by
  intro j hj
  by_cases e : i = j
  · subst e
    have : i < s.length := by
      apply Decidable.byContradiction
      intro hn
      rw [List.getD_eq_getElem?_getD, List.getElem?_eq_none (by omega)] at hj
      exact absurd hj (by simp)
    exact getD_set_self this
  · rw [getD_set_ne e]; exact hj
theorem l2P_le (l : List S45) (i : Nat) : ∀ d j s, Le s (l2P l i d j s)
  | 0, _, s => fun _ h => h
  | d + 1, j, s => fun k h => l2P_le l i d (j + 1) _ k (by split; exact set_le k h; exact h)
theorem l1P_le (l : List S45) : ∀ d i s, Le s (l1P l d i s)
  | 0, _, s => fun _ h => h
  | d + 1, i, s => fun k h => l1P_le l d (i + 1) _ k (l2P_le l i _ _ _ k (by split; exact set_le k h; exact h))
def Sound (l : List S45) (s : List Bool) : Prop := ∀ i, s.getD i false = true → Path l i
theorem sound_set {l : List S45} {s : List Bool} {i : Nat} (h : Sound l s) (hi : Path l i) : Sound l (s.set i true) := by
  intro j hj
  by_cases e : i = j
  · subst e; exact hi
  · rw [getD_set_ne e] at hj; exact h j hj
theorem l2P_sound (l : List S45) (i : Nat) : ∀ d j s, Sound l s → Sound l (l2P l i d j s)
  | 0, _, s, h => h
  | d + 1, j, s, h => by
    rw [l2P]
    refine l2P_sound l i d (j + 1) _ ?_
    split
    · rename_i hc; exact sound_set h (.step (h j hc.1) hc.2)
    · exact h
theorem l1P_sound (l : List S45) : ∀ d i s, i + d = l.length → Sound l s → Sound l (l1P l d i s)
  | 0, _, s, _, h => h
  | d + 1, i, s, hd, h => by
    rw [l1P]
    refine l1P_sound l d (i + 1) _ (by omega) (l2P_sound l i _ _ _ ?_)
    split
    · rename_i hc; subst hc; exact sound_set h (.zero (by omega))
    · exact h
theorem l2P_adds (l : List S45) (i : Nat) : ∀ d j s, i < s.length → ∀ m, j ≤ m → m < j + d → s.getD m false = true → i ∈ succ l m → (l2P l i d j s).getD i false = true
  | 0, j, s, _, m, h1, h2, _, _ => by omega
  | d + 1, j, s, hi, m, h1, h2, hm, hs => by
    rw [l2P]
    by_cases e : m = j
    · subst e
      rw [if_pos ⟨hm, hs⟩]
      exact l2P_le l i d (m + 1) _ i (getD_set_self hi)
    · refine l2P_adds l i d (j + 1) _ (by split <;> first | exact hi | (rw [List.length_set]; exact hi)) m (by omega) (by omega) ?_ hs
      split
      · exact set_le m hm
      · exact hm
theorem l1P_adds (l : List S45) : ∀ d i s, i + d = l.length → s.length = l.length → ∀ t, i ≤ t → t < l.length → (t = 0 ∨ ∃ m, m < l.length ∧ s.getD m false = true ∧ t ∈ succ l m) → (l1P l d i s).getD t false = true
  | 0, i, s, hd, _, t, h1, h2, _ => by omega
  | d + 1, i, s, hd, hs, t, h1, h2, h => by
    rw [l1P]
    by_cases e : t = i
    · subst e
      refine l1P_le l d (t + 1) _ t ?_
      rcases h with h | ⟨m, hm, hsm, hms⟩
      · subst h
        rw [if_pos rfl]
        exact l2P_le l 0 _ _ _ 0 (getD_set_self (by omega))
      · refine l2P_adds l t l.length 0 _ (by split <;> first | omega | (rw [List.length_set]; omega)) m (by omega) (by omega) ?_ hms
        split
        · exact set_le m hsm
        · exact hsm
    · refine l1P_adds l d (i + 1) _ (by omega) (by rw [l2P_len]; split <;> first | exact hs | (rw [List.length_set]; exact hs)) t (by omega) h2 ?_
      rcases h with h | ⟨m, hm, hsm, hms⟩
      · exact .inl h
      · refine .inr ⟨m, hm, l2P_le l i _ _ _ m ?_, hms⟩
        split
        · exact set_le m hsm
        · exact hsm
theorem count_le : ∀ {s s' : List Bool}, s.length = s'.length → Le s s' → s.count true ≤ s'.count true
  | [], s', _, _ => by simp
  | a :: s, [], h, _ => by simp at h
  | a :: s, b :: s', h, hl => by
    have ih := count_le (s := s) (s' := s') (by simpa using h) (fun i hi => by simpa using hl (i + 1) (by simpa using hi))
    have h0 := hl 0
    simp at h0
    cases a <;> cases b <;> simp at h0 ⊢ <;> omega
theorem count_lt : ∀ {s s' : List Bool} (i : Nat), s.length = s'.length → Le s s' → s.getD i false = false → s'.getD i false = true → s.count true + 1 ≤ s'.count true
  | [], [], i, _, _, _, h => by simp at h
  | [], b :: s', i, h, _, _, _ => by simp at h
  | a :: s, [], i, h, _, _, _ => by simp at h
  | a :: s, b :: s', 0, h, hl, h1, h2 => by
    have ih := count_le (s := s) (s' := s') (by simpa using h) (fun i hi => by simpa using hl (i + 1) (by simpa using hi))
    simp at h1 h2
    subst h1; subst h2
    simp; omega
  | a :: s, b :: s', i + 1, h, hl, h1, h2 => by
    have ih := count_lt (s := s) (s' := s') i (by simpa using h) (fun i hi => by simpa using hl (i + 1) (by simpa using hi)) (by simpa using h1) (by simpa using h2)
    have h0 := hl 0
    simp at h0
    cases a <;> cases b <;> simp at h0 ⊢ <;> omega
/-- all that is reached is told -/
theorem reach_rounds (l : List S45) : ∀ (d : Nat) (s : List Bool), s.length = l.length → Sound l s → ((∀ i, Path l i → s.getD i false = true) ∨ l.length ≤ s.count true + d) → Sound l (l0P l d s) ∧ (l0P l d s).length = l.length ∧ ∀ i, Path l i → (l0P l d s).getD i false = true
  | 0, s, hs, hS, h => by
    refine ⟨hS, hs, ?_⟩
    rcases h with h | h
    · exact h
    · intro i hi
      have hil : i < l.length := by cases hi with
        | zero h => exact h
        | step _ hb => exact succ_lt hb
      have hall : s.count true = s.length := by have := List.count_le_length (a := true) (l := s); simp at h; omega
      have := (List.count_eq_length.1 hall) (s.getD i false) (by
        rw [List.getD_eq_getElem?_getD, List.getElem?_eq_getElem (by omega)]
        exact List.getElem_mem _)
      exact this.symm
  | d + 1, s, hs, hS, h => by
    rw [l0P]
    have hle := l1P_le l l.length 0 s
    have hlen := l1P_len l l.length 0 s
    refine reach_rounds l d _ (by rw [hlen]; exact hs) (l1P_sound l l.length 0 s (by omega) hS) ?_
    by_cases hc : ∀ i, Path l i → s.getD i false = true
    · exact .inl (fun i hi => hle i (hc i hi))
    · right
      have h' : l.length ≤ s.count true + (d + 1) := h.resolve_left hc
      have ex : ∃ t, t < l.length ∧ s.getD t false = false ∧ (t = 0 ∨ ∃ m, m < l.length ∧ s.getD m false = true ∧ t ∈ succ l m) := by
        apply Decidable.byContradiction
        intro hn
        refine hc (fun i hi => ?_)
        induction hi with
        | zero h0 =>
          apply Decidable.byContradiction
          intro he
          exact hn ⟨0, h0, by simpa using he, .inl rfl⟩
        | @step a b ha hb ih =>
          apply Decidable.byContradiction
          intro he
          have hal : a < l.length := by
            apply Decidable.byContradiction
            intro hn2
            rw [List.getD_eq_getElem?_getD, List.getElem?_eq_none (by omega)] at ih
            exact absurd ih (by simp)
          exact hn ⟨b, succ_lt hb, by simpa using he, .inr ⟨a, hal, ih, hb⟩⟩
      obtain ⟨t, ht, hst, hex⟩ := ex
      have hadd := l1P_adds l l.length 0 s (by omega) hs t (by omega) ht hex
      have := count_lt t (by rw [hlen]) hle hst hadd
      omega
theorem marks_get (o : List Int) (n : Nat) : (∀ x ∈ o, 0 ≤ x ∧ x < (n : Int)) → ∀ i, (flow_marks o n).getD i false = true ↔ (i : Int) ∈ o := by
  have gen : ∀ (o : List Int) (b : List Bool), (∀ x ∈ o, 0 ≤ x ∧ x < (b.length : Int)) → ∀ i, (o.foldl (fun b x => b.set x.toNat true) b).getD i false = true ↔ (i : Int) ∈ o ∨ b.getD i false = true := by
    intro o
    induction o with
    | nil => intro b _ i; simp
    | cons x o ih =>
      intro b hb i
      have hx := hb x (List.mem_cons_self ..)
      rw [List.foldl_cons, ih _ (fun y hy => by rw [List.length_set]; exact hb y (List.mem_cons_of_mem _ hy)) i, List.mem_cons]
      by_cases e : x.toNat = i
      · subst e
        rw [getD_set_self (by omega)]
        have : ((x.toNat : Nat) : Int) = x := by omega
        simp [this]
      · rw [getD_set_ne e]
        have : ¬ (i : Int) = x := by omega
        simp [this]
  intro h i
  unfold flow_marks
  rw [gen o _ (by simpa using h) i]
  have : (List.replicate n false).getD i false = false := by
    rw [List.getD_eq_getElem?_getD, List.getElem?_replicate]; split <;> rfl
  rw [this]; simp
end Go.Proofs.Ytppanpboejpmjaa.Mf
