/- The compiler's table of live registers is the least one; no program in sight. -/
import Derived.Test.YtppanpboejpmjaaMfC
import Derived.Test.YtppanpboejpmjaaFlowM
set_option linter.all false
namespace Go.Proofs.Ytppanpboejpmjaa.Mf
open Go Go.RowKit Go.Proofs.Ytppanpboejpmjaa.Tr Go.Proofs.YtppanpboejpmjaaW.PrintWords Go.Proofs.YtppanpboejpmjaaW.PrintLast

def blk (l : List S45) (n : Nat) : S45 := l.getD n z45
/-- Words: a register is live where a block begins -/
inductive LiveIn (l : List S45) (r : Int) : Nat → Prop
  | read {n : Nat} (hn : n < l.length) (h : withinOf (blk l n) (blk l n).f0 r = 1) : LiveIn l r n
  | step {n s : Nat} (hn : n < l.length) (h : withinOf (blk l n) (blk l n).f0 r = 0) (hs : (s : Int) ∈ outsOf l n) (k : LiveIn l r s) : LiveIn l r n
def LiveOut (l : List S45) (r : Int) (n : Nat) : Prop := endR (blk l n) r ∨ ∃ s : Nat, (s : Int) ∈ outsOf l n ∧ LiveIn l r s
theorem live_iff {l : List S45} {r : Int} {n : Nat} (hn : n < l.length) : LiveIn l r n ↔ evOf (blk l n).f0 r = 1 ∨ (evOf (blk l n).f0 r = 0 ∧ LiveOut l r n) := by
  constructor
  · intro h
    cases h with
    | read _ h =>
      unfold withinOf at h
      by_cases e : evOf (blk l n).f0 r = 0
      · rw [if_pos e] at h
        refine .inr ⟨e, .inl ?_⟩
        by_cases e2 : endR (blk l n) r
        · exact e2
        · rw [if_neg e2] at h; omega
      · rw [if_neg e] at h; exact .inl h
    | step _ h hs k =>
      unfold withinOf at h
      by_cases e : evOf (blk l n).f0 r = 0
      · exact .inr ⟨e, .inr ⟨_, hs, k⟩⟩
      · rw [if_neg e] at h; exact absurd h e
  · rintro (h | ⟨h, h2 | ⟨s, hs, k⟩⟩)
    · refine .read hn ?_
      unfold withinOf; rw [if_neg (by omega)]; exact h
    · refine .read hn ?_
      unfold withinOf; rw [if_pos h, if_pos h2]
    · by_cases e2 : endR (blk l n) r
      · refine .read hn ?_
        unfold withinOf; rw [if_pos h, if_pos e2]
      · refine .step hn ?_ hs k
        unfold withinOf; rw [if_pos h, if_neg e2]

abbrev Tab := List (List Bool)
def get (T : Tab) (n r : Nat) : Bool := (T.getD n []).getD r false
theorem getD_set_self {α : Type} {l : List α} {n : Nat} {x d : α} (h : n < l.length) : (l.set n x).getD n d = x := by
  rw [List.getD_eq_getElem?_getD, List.getElem?_set_self h]; rfl
theorem getD_set_ne {α : Type} {l : List α} {n i : Nat} {x d : α} (h : n ≠ i) : (l.set n x).getD i d = l.getD i d := by
  rw [List.getD_eq_getElem?_getD, List.getElem?_set_ne h, List.getD_eq_getElem?_getD]
def okP (l : List S45) : Prop := l.length ≤ 40 ∧ ∀ b ∈ l, okB b
theorem okP.blk {l : List S45} (h : okP l) {n : Nat} (hn : n < l.length) : okB (blk l n) := by
  have e : Mf.blk l n = l[n] := by unfold Mf.blk; rw [List.getD_eq_getElem?_getD, List.getElem?_eq_getElem hn]; rfl
  rw [e]; exact h.2 _ (List.getElem_mem hn)

/-! #### one block -/
def jsP (I : Tab) (o : List Int) (b : List Bool) : List Bool := o.foldl (fun b t => orL b (I.getD t.toNat [])) b
theorem jsP_len (I : Tab) : ∀ (o : List Int) (b : List Bool), (jsP I o b).length = b.length
  | [], b => rfl
  | t :: o, b => by show (jsP I o (orL b (I.getD t.toNat []))).length = _; rw [jsP_len I o, orL_length]
theorem js_ev (I : Tab) (m : Nat) (hm : m ≤ 1000) (hI : ∀ n, n < I.length → (I.getD n []).length = m) : ∀ (o : List Int) (b : List Bool), (∀ t ∈ o, 0 ≤ t ∧ t < (I.length : Int)) → b.length = m → Ev (fun k => flow_Live.js k I o b) (jsP I o b)
  | [], b, _, _ => by
    unfold flow_Live.js
    simp only [List.foldlM_nil]; exact Ev.now _
  | t :: o, b, ho, hb => by
    have ht := ho t (List.mem_cons_self ..)
    have hrow := hI t.toNat (by omega)
    unfold flow_Live.js
    simp only [List.foldlM_cons]
    refine Ev.bind (f := fun k b => o.foldlM (flow_Live.jf k I) b) (a := orL b (I.getD t.toNat [])) ?_ (js_ev I m hm hI o _ (fun x hx => ho x (List.mem_cons_of_mem _ hx)) (by rw [orL_length]; exact hb))
    unfold flow_Live.jf
    simp only [if_pos ht]
    obtain ⟨K, hK⟩ := join_ev b (I.getD t.toNat []) (by omega) (by omega)
    exact ⟨K, fun k hk => by have h := hK k hk; dsimp only at h ⊢; rw [h]; rfl⟩
theorem jsP_getD (I : Tab) (m : Nat) : ∀ (o : List Int) (b : List Bool) (r : Nat), b.length = m → r < m → ((jsP I o b).getD r false = true ↔ b.getD r false = true ∨ ∃ t ∈ o, get I t.toNat r = true)
  | [], b, r, _, _ => by simp [jsP]
  | t :: o, b, r, hb, hr => by
    show (jsP I o (orL b (I.getD t.toNat []))).getD r false = true ↔ _
    rw [jsP_getD I m o _ r (by rw [orL_length]; exact hb) hr, orL_getD b _ r (by omega), Bool.or_eq_true]
    constructor
    · rintro ((h | h) | ⟨x, hx, h⟩)
      · exact .inl h
      · exact .inr ⟨t, List.mem_cons_self .., h⟩
      · exact .inr ⟨x, List.mem_cons_of_mem _ hx, h⟩
    · rintro (h | ⟨x, hx, h⟩)
      · exact .inl (.inl h)
      · rcases List.mem_cons.1 hx with e | hx
        · subst e; exact .inl (.inr h)
        · exact .inr ⟨x, hx, h⟩
abbrev St := Tab × Tab × Bool
def outRow (l : List S45) (n : Nat) (x : St) : List Bool := jsP x.1 (outsOf l n) (x.2.1.getD n [])
def inRow (l : List S45) (n : Nat) (x : St) : List Bool := insP (blk l n).f0 (outRow l n x)
def oneP (l : List S45) (n : Nat) (x : St) : St := (x.1.set n (orL (x.1.getD n []) (inRow l n x)), x.2.1.set n (outRow l n x), anyNew (x.1.getD n []) (inRow l n x) || x.2.2)
/-- what holds throughout -/
structure Good (l : List S45) (m : Nat) (I O : Tab) : Prop where
  li : I.length = l.length
  lo : O.length = l.length
  ri : ∀ n, n < l.length → (I.getD n []).length = m
  ro : ∀ n, n < l.length → (O.getD n []).length = m
  si : ∀ n r : Nat, n < l.length → r < m → get I n r = true → LiveIn l r n
  so : ∀ n r : Nat, n < l.length → r < m → get O n r = true → LiveOut l r n
  eo : ∀ n r : Nat, n < l.length → r < m → endR (blk l n) r → get O n r = true
/-- a block's rules hold -/
def Closed (l : List S45) (m n : Nat) (I O : Tab) : Prop := (∀ s r : Nat, (s : Int) ∈ outsOf l n → r < m → get I s r = true → get O n r = true) ∧ (∀ r : Nat, r < m → (evOf (blk l n).f0 r = 1 ∨ (evOf (blk l n).f0 r = 0 ∧ get O n r = true)) → get I n r = true)
variable {l : List S45} {m : Nat}
theorem outs_nat {n : Nat} {t : Int} (h : t ∈ outsOf l n) : ∃ s : Nat, t = (s : Int) ∧ s < l.length := ⟨t.toNat, by have := outs_mem h; omega, by have := outs_mem h; omega⟩
theorem outRow_len {x : St} (h : Good l m x.1 x.2.1) {n : Nat} (hn : n < l.length) : (outRow l n x).length = m := by unfold outRow; rw [jsP_len]; exact h.ro n hn
theorem inRow_len {x : St} (h : Good l m x.1 x.2.1) {n : Nat} (hn : n < l.length) : (inRow l n x).length = m := by unfold inRow; rw [insP_len]; exact outRow_len h hn
theorem outRow_get {x : St} (h : Good l m x.1 x.2.1) {n r : Nat} (hn : n < l.length) (hr : r < m) : (outRow l n x).getD r false = true ↔ get x.2.1 n r = true ∨ ∃ s : Nat, (s : Int) ∈ outsOf l n ∧ get x.1 s r = true := by
  unfold outRow
  rw [jsP_getD x.1 m _ _ r (h.ro n hn) hr]
  constructor
  · rintro (h1 | ⟨t, ht, h1⟩)
    · exact .inl h1
    · obtain ⟨s, rfl, _⟩ := outs_nat ht
      exact .inr ⟨s, ht, by simpa using h1⟩
  · rintro (h1 | ⟨s, hs, h1⟩)
    · exact .inl h1
    · exact .inr ⟨(s : Int), hs, by simpa using h1⟩
theorem outRow_sound {x : St} (h : Good l m x.1 x.2.1) {n r : Nat} (hn : n < l.length) (hr : r < m) (hg : (outRow l n x).getD r false = true) : LiveOut l r n := by
  rcases (outRow_get h hn hr).1 hg with h1 | ⟨s, hs, h1⟩
  · exact h.so n r hn hr h1
  · obtain ⟨s', e, hs'⟩ := outs_nat hs
    have : s = s' := by omega
    subst this
    exact .inr ⟨s, hs, h.si s r hs' hr h1⟩
theorem inRow_get {x : St} (h : Good l m x.1 x.2.1) {n r : Nat} (hn : n < l.length) (hr : r < m) : (inRow l n x).getD r false = true ↔ evOf (blk l n).f0 r = 1 ∨ (evOf (blk l n).f0 r = 0 ∧ (outRow l n x).getD r false = true) := by
  unfold inRow
  exact insP_getD _ _ r (by rw [outRow_len h hn]; exact hr)
theorem one_good {x : St} (h : Good l m x.1 x.2.1) {n : Nat} (hn : n < l.length) : Good l m (oneP l n x).1 (oneP l n x).2.1 := by
  have hi : n < x.1.length := by rw [h.li]; exact hn
  have ho : n < x.2.1.length := by rw [h.lo]; exact hn
  have lo := outRow_len h hn
  unfold oneP
  refine ⟨by simp [h.li], by simp [h.lo], ?_, ?_, ?_, ?_, ?_⟩
  · intro i hil
    by_cases e : n = i
    · subst e; dsimp only; rw [getD_set_self hi, orL_length]; exact h.ri n hn
    · dsimp only; rw [getD_set_ne e]; exact h.ri i hil
  · intro i hil
    by_cases e : n = i
    · subst e; dsimp only; rw [getD_set_self ho]; exact lo
    · dsimp only; rw [getD_set_ne e]; exact h.ro i hil
  · intro i r hil hr hg
    unfold get at hg
    dsimp only at hg
    by_cases e : n = i
    · subst e
      rw [getD_set_self hi, orL_getD _ _ r (by rw [h.ri n hn]; exact hr), Bool.or_eq_true] at hg
      rcases hg with hg | hg
      · exact h.si n r hn hr hg
      · rw [live_iff hn]
        rcases (inRow_get h hn hr).1 hg with h1 | ⟨h1, h2⟩
        · exact .inl h1
        · exact .inr ⟨h1, outRow_sound h hn hr h2⟩
    · rw [getD_set_ne e] at hg; exact h.si i r hil hr hg
  · intro i r hil hr hg
    unfold get at hg
    dsimp only at hg
    by_cases e : n = i
    · subst e
      rw [getD_set_self ho] at hg
      exact outRow_sound h hn hr hg
    · rw [getD_set_ne e] at hg; exact h.so i r hil hr hg
  · intro i r hil hr he
    unfold get
    dsimp only
    by_cases e : n = i
    · subst e
      rw [getD_set_self ho]
      exact (outRow_get h hn hr).2 (.inl (h.eo n r hn hr he))
    · rw [getD_set_ne e]; exact h.eo i r hil hr he
theorem one_fix {x : St} (h : Good l m x.1 x.2.1) {n : Nat} (hn : n < l.length) (hg : (oneP l n x).2.2 = false) : x.2.2 = false ∧ (oneP l n x).1 = x.1 ∧ Closed l m n (oneP l n x).1 (oneP l n x).2.1 := by
  have hi : n < x.1.length := by rw [h.li]; exact hn
  have ho : n < x.2.1.length := by rw [h.lo]; exact hn
  have hg2 : anyNew (x.1.getD n []) (inRow l n x) = false ∧ x.2.2 = false := by simpa [oneP] using hg
  have e1 : (oneP l n x).1 = x.1 := by
    show x.1.set n (orL _ _) = _
    rw [anyNew_false hg2.1]
    exact flow_set_self (flow_getD [] hi)
  refine ⟨hg2.2, e1, ?_⟩
  rw [e1]
  have eo : (oneP l n x).2.1.getD n [] = outRow l n x := getD_set_self ho
  constructor
  · intro s r hs hr hgs
    unfold get
    rw [eo]
    exact (outRow_get h hn hr).2 (.inr ⟨s, hs, hgs⟩)
  · intro r hr hh
    have h1 : (inRow l n x).getD r false = true := (inRow_get h hn hr).2 (by
      unfold get at hh; rw [eo] at hh; exact hh)
    have h2 := orL_getD (x.1.getD n []) (inRow l n x) r (by rw [h.ri n hn]; exact hr)
    rw [anyNew_false hg2.1, h1, Bool.or_true] at h2
    exact h2
theorem one_ev (a0 : ByteArray) (a1 : Bool) (a2 a3 : Int) (l4 : List S76) (hl : okP l) (hm : m ≤ 1000) {x : St} (h : Good l m x.1 x.2.1) {n : Nat} (hn : n < l.length) : Ev (fun k => flow_Live.one k a0 a1 a2 a3 l4 l n x) (oneP l n x) := by
  unfold flow_Live.one
  refine Ev.bind (flowOuts a0 a1 a2 a3 l4 l n hn) ?_
  refine Ev.bind (js_ev x.1 m hm (fun i hi => h.ri i (by rw [h.li] at hi; exact hi)) (outsOf l n) (x.2.1.getD n []) (fun t ht => by rw [h.li]; exact outs_mem ht) (h.ro n hn)) ?_
  have e : rd_T45 l (n : Int) = blk l n := by simp [rd_T45, blk]
  rw [e]
  refine Ev.bind (ins_ev (blk l n).f0 (hl.blk hn).2 _) ?_
  refine Ev.bind (join_ev (x.1.getD n []) (inRow l n x) (by rw [h.ri n hn, inRow_len h hn]) (by rw [inRow_len h hn]; exact hm)) ?_
  exact Ev.now _

/-! #### a round -/
def rndP (l : List S45) : Nat → St → St
  | 0, x => x
  | n + 1, x => rndP l n (oneP l n x)
theorem rnd_good : ∀ (j : Nat) (x : St), j ≤ l.length → Good l m x.1 x.2.1 → Good l m (rndP l j x).1 (rndP l j x).2.1
  | 0, x, _, h => h
  | j + 1, x, hj, h => rnd_good j _ (by omega) (one_good h (by omega))
theorem rnd_ev (a0 : ByteArray) (a1 : Bool) (a2 a3 : Int) (l4 : List S76) (hl : okP l) (hm : m ≤ 1000) : ∀ (j : Nat) (x : St), j ≤ l.length → Good l m x.1 x.2.1 → Ev (fun k => flow_Live.rnd k a0 a1 a2 a3 l4 l j x) (rndP l j x)
  | 0, x, _, h => by simp only [flow_Live.rnd]; exact Ev.now _
  | j + 1, x, hj, h => by
    simp only [flow_Live.rnd]
    exact Ev.bind (f := fun k y => flow_Live.rnd k a0 a1 a2 a3 l4 l j y) (one_ev a0 a1 a2 a3 l4 hl hm h (by omega)) (rnd_ev a0 a1 a2 a3 l4 hl hm j _ (by omega) (one_good h (by omega)))
theorem rnd_fix : ∀ (j : Nat) (x : St), j ≤ l.length → Good l m x.1 x.2.1 → (rndP l j x).2.2 = false → x.2.2 = false ∧ (rndP l j x).1 = x.1 ∧ (∀ n, n < j → Closed l m n (rndP l j x).1 (rndP l j x).2.1) ∧ ∀ n, j ≤ n → (rndP l j x).2.1.getD n [] = x.2.1.getD n []
  | 0, x, _, h, hg => ⟨hg, rfl, fun n hn => by omega, fun _ _ => rfl⟩
  | j + 1, x, hj, h, hg => by
    obtain ⟨h1, h2, h3, h4⟩ := rnd_fix j (oneP l j x) (by omega) (one_good h (by omega)) hg
    obtain ⟨k1, k2, k3⟩ := one_fix h (show j < l.length by omega) h1
    refine ⟨k1, h2.trans k2, ?_, ?_⟩
    · intro n hn
      by_cases e : n < j
      · exact h3 n e
      · obtain rfl : n = j := by omega
        show Closed l m n (rndP l n (oneP l n x)).1 (rndP l n (oneP l n x)).2.1
        have e5 := h4 n (Nat.le_refl _)
        rw [h2]
        exact ⟨fun s r hs hr hh => by have := k3.1 s r hs hr hh; unfold get at this ⊢; rw [e5]; exact this, fun r hr hh => k3.2 r hr (by unfold get at hh ⊢; rw [e5] at hh; exact hh)⟩
    · intro n hn
      have := h4 n (by omega)
      show (rndP l j (oneP l j x)).2.1.getD n [] = _
      rw [this]
      exact getD_set_ne (by omega)
def cnt (T : Tab) : Nat := (T.map cntB).sum
theorem cnt_set : ∀ (T : Tab) (n : Nat) (row : List Bool), n < T.length → cnt (T.set n row) + cntB (T.getD n []) = cnt T + cntB row
  | [], n, row, h => by simp at h
  | b :: T, 0, row, h => by simp [cnt]; omega
  | b :: T, n + 1, row, h => by
    have := cnt_set T n row (by simpa using h)
    simp [cnt] at this ⊢; omega
theorem cnt_le : ∀ (T : Tab) (m : Nat), (∀ n, n < T.length → (T.getD n []).length = m) → cnt T ≤ T.length * m
  | [], m, _ => by simp [cnt]
  | b :: T, m, h => by
    have h0 := h 0 (by simp)
    have := cnt_le T m (fun n hn => by simpa using h (n + 1) (by simpa using hn))
    have hb : cntB b ≤ b.length := List.count_le_length
    simp at h0
    simp [cnt, Nat.add_mul] at this ⊢; omega
theorem one_cnt {x : St} (h : Good l m x.1 x.2.1) {n : Nat} (hn : n < l.length) : cnt x.1 + (oneP l n x).2.2.toNat ≤ cnt (oneP l n x).1 + x.2.2.toNat := by
  have h1 := cnt_set x.1 n (orL (x.1.getD n []) (inRow l n x)) (by rw [h.li]; exact hn)
  have h2 := cntB_orL (x.1.getD n []) (inRow l n x)
  show cnt x.1 + (anyNew (x.1.getD n []) (inRow l n x) || x.2.2).toNat ≤ cnt (x.1.set n _) + x.2.2.toNat
  generalize x.1.getD n [] = A at h1 h2 ⊢
  generalize inRow l n x = B at h1 h2 ⊢
  generalize cnt (x.1.set n (orL A B)) = C at h1 ⊢
  generalize anyNew A B = p at h2 ⊢
  cases p <;> cases x.2.2 <;> simp at h2 ⊢ <;> omega
theorem rnd_cnt : ∀ (j : Nat) (x : St), j ≤ l.length → Good l m x.1 x.2.1 → cnt x.1 + (rndP l j x).2.2.toNat ≤ cnt (rndP l j x).1 + x.2.2.toNat
  | 0, x, _, h => Nat.le_refl _
  | j + 1, x, hj, h => by
    have h1 := one_cnt h (show j < l.length by omega)
    have h2 := rnd_cnt j _ (by omega) (one_good h (show j < l.length by omega))
    show cnt x.1 + (rndP l j (oneP l j x)).2.2.toNat ≤ cnt (rndP l j (oneP l j x)).1 + x.2.2.toNat
    omega

/-! #### all rounds -/
theorem lp_ev (a0 : ByteArray) (a1 : Bool) (a2 a3 : Int) (l4 : List S76) (hl : okP l) (hm : m ≤ 1000) : ∀ (d : Nat) (I O : Tab), Good l m I O → l.length * m ≤ cnt I + d → ∃ I' O', Good l m I' O' ∧ (∀ n, n < l.length → Closed l m n I' O') ∧ ∃ K, ∀ k f, K ≤ k → d < f → flow_Live.lp k a0 a1 a2 a3 l4 l f I O = some (I', O') := by
  intro d
  induction d with
  | zero =>
    intro I O h hd
    have hr := rnd_good l.length (I, O, false) (Nat.le_refl _) h
    have hc := rnd_cnt l.length (I, O, false) (Nat.le_refl _) h
    have hle := cnt_le (rndP l l.length (I, O, false)).1 m (fun n hn => hr.ri n (by rw [hr.li] at hn; exact hn))
    rw [hr.li] at hle
    have hg : (rndP l l.length (I, O, false)).2.2 = false := by
      cases e : (rndP l l.length (I, O, false)).2.2 with
      | false => rfl
      | true => rw [e] at hc; simp at hc hd; omega
    obtain ⟨_, h2, h3, _⟩ := rnd_fix l.length (I, O, false) (Nat.le_refl _) h hg
    obtain ⟨K, hK⟩ := rnd_ev a0 a1 a2 a3 l4 hl hm l.length (I, O, false) (Nat.le_refl _) h
    dsimp only at hK
    refine ⟨_, _, hr, h3, K, fun k f hk hf => ?_⟩
    obtain ⟨f, rfl⟩ : ∃ f', f = f' + 1 := ⟨f - 1, by omega⟩
    simp only [flow_Live.lp]
    rw [hK k hk, Option.bind_some, if_neg (by rw [hg]; simp)]
  | succ d ih =>
    intro I O h hd
    have hr := rnd_good l.length (I, O, false) (Nat.le_refl _) h
    have hc := rnd_cnt l.length (I, O, false) (Nat.le_refl _) h
    obtain ⟨K, hK⟩ := rnd_ev a0 a1 a2 a3 l4 hl hm l.length (I, O, false) (Nat.le_refl _) h
    dsimp only at hK
    cases hg : (rndP l l.length (I, O, false)).2.2 with
    | false =>
      obtain ⟨_, h2, h3, _⟩ := rnd_fix l.length (I, O, false) (Nat.le_refl _) h hg
      refine ⟨_, _, hr, h3, K, fun k f hk hf => ?_⟩
      obtain ⟨f, rfl⟩ : ∃ f', f = f' + 1 := ⟨f - 1, by omega⟩
      simp only [flow_Live.lp]
      rw [hK k hk, Option.bind_some, if_neg (by rw [hg]; simp)]
    | true =>
      rw [hg] at hc
      simp at hc
      obtain ⟨I', O', g1, g2, K2, hK2⟩ := ih _ _ hr (by omega)
      refine ⟨I', O', g1, g2, max K K2, fun k f hk hf => ?_⟩
      obtain ⟨f, rfl⟩ : ∃ f', f = f' + 1 := ⟨f - 1, by omega⟩
      simp only [flow_Live.lp]
      rw [hK k (by omega), Option.bind_some, if_pos hg]
      exact hK2 k f (by omega) (by omega)
theorem mapM_some {α β : Type} (g : α → β) : ∀ l : List α, l.mapM (fun b => some (g b)) = some (l.map g)
  | [] => rfl
  | a :: l => by rw [List.mapM_cons, mapM_some g l]; rfl
def endRow (m : Nat) (x : S45) : List Bool := if x.f1 = 2 ∨ x.f1 = 3 then markP (List.replicate m false) x.f2 true else List.replicate m false
theorem ends_eq (l : List S45) (m : Nat) : flow_Live.ends l m = some (l.map (endRow m)) := by
  unfold flow_Live.ends
  simp only [ended_eq]
  exact mapM_some _ l
theorem endRow_len (m : Nat) (x : S45) : (endRow m x).length = m := by unfold endRow; split <;> simp [mark_len]
theorem endRow_get (m : Nat) (x : S45) (r : Nat) (hr : r < m) : (endRow m x).getD r false = true ↔ endR x r := by
  have h0 : (List.replicate m false).getD r false = false := by rw [List.getD_eq_getElem?_getD, List.getElem?_replicate, if_pos hr]; rfl
  unfold endRow endR
  by_cases h : x.f1 = 2 ∨ x.f1 = 3
  · rw [if_pos h, mark_getD _ _ _ r (by simpa using hr), h0]
    by_cases e : x.f2 = (r : Int) <;> simp [e, h]
  · rw [if_neg h, h0]; simp [h]
/-- THE COMPILER'S TABLES ARE THE WORDS' -/
theorem live_ev (a0 : ByteArray) (a1 : Bool) (a2 a3 : Int) (l4 : List S76) (hl : okP l) (ha3 : a3 ≤ 40) (hm : (max a3 0).toNat = m) : ∃ I O : Tab, Ev (fun k => flow_Live.f k a0 a1 a2 a3 l4 l) (I, O) ∧ I.length = l.length ∧ O.length = l.length ∧ (∀ n, n < l.length → (O.getD n []).length = m) ∧
    (∀ n r : Nat, n < l.length → r < m → (get I n r = true ↔ LiveIn l r n)) ∧ (∀ n r : Nat, n < l.length → r < m → (get O n r = true ↔ LiveOut l r n)) := by
  have hm4 : m ≤ 40 := by omega
  have g0 : Good l m (List.replicate l.length (List.replicate m false)) (l.map (endRow m)) := by
    have hrep : ∀ n, n < l.length → (List.replicate l.length (List.replicate m false)).getD n [] = List.replicate m false := fun n hn => by
      rw [List.getD_eq_getElem?_getD, List.getElem?_replicate, if_pos hn]; rfl
    have hmap : ∀ n, n < l.length → (l.map (endRow m)).getD n [] = endRow m (blk l n) := fun n hn => by
      rw [List.getD_eq_getElem?_getD, List.getElem?_map, List.getElem?_eq_getElem hn]
      unfold blk
      rw [List.getD_eq_getElem?_getD, List.getElem?_eq_getElem hn]; rfl
    refine ⟨by simp, by simp, fun n hn => by rw [hrep n hn]; simp, fun n hn => by rw [hmap n hn]; exact endRow_len m _, fun n r hn hr h => ?_, fun n r hn hr h => ?_, fun n r hn hr h => ?_⟩
    · unfold get at h
      rw [hrep n hn, List.getD_eq_getElem?_getD, List.getElem?_replicate, if_pos hr] at h; simp at h
    · unfold get at h
      rw [hmap n hn] at h
      exact .inl ((endRow_get m _ r hr).1 h)
    · unfold get
      rw [hmap n hn]
      exact (endRow_get m _ r hr).2 h
  obtain ⟨I, O, g, hc, K, hK⟩ := lp_ev a0 a1 a2 a3 l4 hl (show m ≤ 1000 by omega) (l.length * m) _ _ g0 (by omega)
  have full : ∀ (n r : Nat), LiveIn l r n → r < m → get I n r = true := by
    intro n r h hr
    induction h with
    | @read n hn h =>
      unfold withinOf at h
      refine (hc n hn).2 r hr ?_
      by_cases e : evOf (blk l n).f0 r = 0
      · rw [if_pos e] at h
        refine .inr ⟨e, g.eo n r hn hr ?_⟩
        by_cases e2 : endR (blk l n) r
        · exact e2
        · rw [if_neg e2] at h; omega
      · rw [if_neg e] at h; exact .inl h
    | @step n s hn h hs k ih =>
      unfold withinOf at h
      refine (hc n hn).2 r hr ?_
      by_cases e : evOf (blk l n).f0 r = 0
      · exact .inr ⟨e, (hc n hn).1 s r hs hr ih⟩
      · rw [if_neg e] at h; exact absurd h e
  refine ⟨I, O, ⟨max K (l.length * m + 1), fun k hk => ?_⟩, g.li, g.lo, g.ro, fun n r hn hr => ⟨g.si n r hn hr, fun h => full n r h hr⟩, fun n r hn hr => ⟨g.so n r hn hr, ?_⟩⟩
  · have h40 := hl.1
    unfold flow_Live.f
    dsimp only
    rw [if_pos ⟨by omega, by omega, fun x hx => by have := (hl.2 x hx).1; omega⟩, hm, ends_eq, Option.bind_some]
    exact hK k k (by omega) (by omega)
  · rintro (h | ⟨s, hs, h⟩)
    · exact g.eo n r hn hr h
    · exact (hc n hn).1 s r hs hr (full s r h hr)
end Go.Proofs.Ytppanpboejpmjaa.Mf
