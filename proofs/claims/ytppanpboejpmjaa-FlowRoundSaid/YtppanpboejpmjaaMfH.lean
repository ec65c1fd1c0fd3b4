/- The walk through the blocks, as a relation: it comes to an end, and what it comes to; no program in sight. -/
import Derived.Test.YtppanpboejpmjaaMfW
set_option linter.all false
namespace Go.Proofs.Ytppanpboejpmjaa.Mf
open Go Go.RowKit Go.Proofs.Ytppanpboejpmjaa.Tr Go.Proofs.YtppanpboejpmjaaW.PrintWords Go.Proofs.YtppanpboejpmjaaW.PrintLast

def succ (l : List S45) (n : Nat) : List Nat := (outsOf l n).map Int.toNat
theorem succ_mem {l : List S45} {n t : Nat} : t ∈ succ l n ↔ (t : Int) ∈ outsOf l n := by
  unfold succ
  rw [List.mem_map]
  constructor
  · rintro ⟨x, hx, e⟩
    have := outs_mem hx
    rw [show (t : Int) = x by omega]; exact hx
  · intro h; exact ⟨_, h, by omega⟩
theorem succ_lt {l : List S45} {n t : Nat} (h : t ∈ succ l n) : t < l.length := by
  have := outs_mem (succ_mem.1 h); omega
abbrev W3 := List Nat × List Nat × List (Nat × Nat)
/-- a block's ends are gone through: o is left of them -/
inductive Loop (l : List S45) : Nat → List Nat → W3 → W3 → Prop
  | nil {n : Nat} {s : W3} : Loop l n [] s s
  | back {n t : Nat} {o : List Nat} {st left : List Nat} {bk : List (Nat × Nat)} {s : W3} (h : st.getD t 0 = 1) (k : Loop l n o (st, left, bk ++ [(n, t)]) s) : Loop l n (t :: o) (st, left, bk) s
  | into {n t : Nat} {o : List Nat} {st left st1 left1 : List Nat} {bk bk1 : List (Nat × Nat)} {s : W3} (h : st.getD t 0 = 0) (i : Loop l t (succ l t) (st.set t 1, left, bk) (st1, left1, bk1)) (k : Loop l n o (st1.set t 2, left1 ++ [t], bk1) s) : Loop l n (t :: o) (st, left, bk) s
  | skip {n t : Nat} {o : List Nat} {st left : List Nat} {bk : List (Nat × Nat)} {s : W3} (h : st.getD t 0 ≠ 0 ∧ st.getD t 0 ≠ 1) (k : Loop l n o (st, left, bk) s) : Loop l n (t :: o) (st, left, bk) s
theorem getD_set {st : List Nat} {t i v : Nat} (ht : t < st.length) : (st.set t v).getD i 0 = if i = t then v else st.getD i 0 := by
  by_cases e : i = t
  · subst e; rw [if_pos rfl]; exact getD_set_self ht
  · rw [if_neg e]; exact getD_set_ne (Ne.symm e)
theorem count_set0 {s : List Nat} {b v : Nat} (hb : b < s.length) (h : s.getD b 0 = 0) (hv : v ≠ 0) : (s.set b v).count 0 + 1 = s.count 0 := by
  induction s generalizing b with
  | nil => simp at hb
  | cons x s ih =>
    cases b with
    | zero =>
      simp at h; subst h; simp [hv]
    | succ b =>
      have := ih (b := b) (by simpa using hb) (by simpa using h)
      by_cases e : x = 0
      · subst e; simp; omega
      · simp [e]; omega
theorem count_set1 {s : List Nat} {b v : Nat} (hb : b < s.length) (h : s.getD b 0 ≠ 0) (hv : v ≠ 0) : (s.set b v).count 0 = s.count 0 := by
  induction s generalizing b with
  | nil => simp at hb
  | cons x s ih =>
    cases b with
    | zero =>
      simp at h; simp [hv, h]
    | succ b =>
      have := ih (b := b) (by simpa using hb) (by simpa using h)
      by_cases e : x = 0
      · subst e; simp; omega
      · simp [e]; omega
/-- what a walk keeps and leaves -/
structure Walked (l : List S45) (n : Nat) (o : List Nat) (s s' : W3) : Prop where
  len : s'.1.length = s.1.length
  cnt : s'.1.count 0 ≤ s.1.count 0
  one : ∀ i, s'.1.getD i 0 = 1 ↔ s.1.getD i 0 = 1
  two : ∀ i, s.1.getD i 0 = 2 → s'.1.getD i 0 = 2
  val : ∀ i, s'.1.getD i 0 ≤ 2
  nz : ∀ t ∈ o, s'.1.getD t 0 ≠ 0
  left : ∃ nl, s'.2.1 = s.2.1 ++ nl ∧ nl.Nodup ∧ (∀ i, i ∈ nl ↔ s.1.getD i 0 = 0 ∧ s'.1.getD i 0 = 2) ∧ (∀ p a q, nl = p ++ a :: q → ∀ t ∈ succ l a, s'.1.getD t 0 ≠ 0 ∧ ((a, t) ∈ s'.2.2 ↔ t ∉ s.2.1 ++ p)) ∧
    ∀ R : Nat → Prop, R n → (∀ a b, R a → b ∈ succ l a → R b) → (∀ t ∈ o, R t) → ∀ i ∈ nl, R i
  bk : ∃ nb, s'.2.2 = s.2.2 ++ nb ∧ (∀ a b, (a, b) ∈ nb → (a = n ∨ s.1.getD a 0 = 0) ∧ s'.1.getD a 0 ≠ 0) ∧ (∀ t, (n, t) ∈ nb ↔ t ∈ o ∧ s.1.getD t 0 = 1)
/-- how a walk stands, ahead of a block's ends -/
structure Before (l : List S45) (n : Nat) (o : List Nat) (s : W3) : Prop where
  len : s.1.length = l.length
  o : ∀ t ∈ o, t < l.length
  n : s.1.getD n 0 = 1
  val : ∀ i, s.1.getD i 0 ≤ 2
  left : ∀ i, i ∈ s.2.1 ↔ s.1.getD i 0 = 2
  bk : ∀ a b, (a, b) ∈ s.2.2 → s.1.getD a 0 ≠ 0
theorem getD_pos_lt {st : List Nat} {i : Nat} (h : st.getD i 0 ≠ 0) : i < st.length := by
  apply Decidable.byContradiction
  intro hn
  rw [List.getD_eq_getElem?_getD, List.getElem?_eq_none (by omega)] at h
  exact h rfl
theorem split_three {nl1 nl2 p q : List Nat} {t a : Nat} (h : nl1 ++ t :: nl2 = p ++ a :: q) : (∃ q', nl1 = p ++ a :: q') ∨ (p = nl1 ∧ a = t) ∨ (∃ p', p = nl1 ++ t :: p' ∧ nl2 = p' ++ a :: q) := by
  rcases List.append_eq_append_iff.1 h with ⟨c, h1, h2⟩ | ⟨c, h1, h2⟩
  · cases c with
    | nil => simp at h1 h2; exact .inr (.inl ⟨h1, h2.1.symm⟩)
    | cons x c =>
      simp at h2
      obtain ⟨rfl, h2⟩ := h2
      exact .inr (.inr ⟨c, h1, h2⟩)
  · cases c with
    | nil => simp at h1 h2; exact .inr (.inl ⟨h1.symm, h2.1⟩)
    | cons x c =>
      simp at h2
      obtain ⟨rfl, h2⟩ := h2
      exact .inl ⟨c, h1⟩
theorem Walked.nzero {l : List S45} {n : Nat} {o : List Nat} {s s' : W3} (h : Walked l n o s s') {i : Nat} (hv : s.1.getD i 0 ≤ 2) (h0 : s.1.getD i 0 ≠ 0) : s'.1.getD i 0 ≠ 0 := by
  by_cases h1 : s.1.getD i 0 = 1
  · have := (h.one i).2 h1; omega
  · have := h.two i (by omega); omega
/-- the case of a block that is walked into -/
theorem walked_into {l : List S45} {n t : Nat} {o st left st1 left1 : List Nat} {bk bk1 : List (Nat × Nat)} {s' : W3} (hB : Before l n (t :: o) (st, left, bk)) (h0 : st.getD t 0 = 0) (hW1 : Walked l t (succ l t) (st.set t 1, left, bk) (st1, left1, bk1)) (hW : Walked l n o (st1.set t 2, left1 ++ [t], bk1) s')
    (hl1 : ∀ i, i ∈ left1 ↔ st1.getD i 0 = 2) : Walked l n (t :: o) (st, left, bk) s' := by
  have ht := hB.o t (List.mem_cons_self ..)
  have hts : t < st.length := by have := hB.len; simp at this; omega
  have g1 : ∀ i, (st.set t 1).getD i 0 = if i = t then 1 else st.getD i 0 := fun i => getD_set hts
  have len1 : st1.length = st.length := by have := hW1.len; simpa using this
  have ht1 : t < st1.length := by omega
  have g2 : ∀ i, (st1.set t 2).getD i 0 = if i = t then 2 else st1.getD i 0 := fun i => getD_set ht1
  have one1 : ∀ i, st1.getD i 0 = 1 ↔ (st.set t 1).getD i 0 = 1 := hW1.one
  have two1 : ∀ i, (st.set t 1).getD i 0 = 2 → st1.getD i 0 = 2 := hW1.two
  have val1 : ∀ i, st1.getD i 0 ≤ 2 := hW1.val
  have val0 : ∀ i, st.getD i 0 ≤ 2 := hB.val
  have nz1 : ∀ u ∈ succ l t, st1.getD u 0 ≠ 0 := hW1.nz
  have one2 : ∀ i, s'.1.getD i 0 = 1 ↔ (st1.set t 2).getD i 0 = 1 := hW.one
  have two2 : ∀ i, (st1.set t 2).getD i 0 = 2 → s'.1.getD i 0 = 2 := hW.two
  have n1 : st.getD n 0 = 1 := hB.n
  have htn : t ≠ n := by intro e; subst e; omega
  have hbk : ∀ a b, (a, b) ∈ bk → st.getD a 0 ≠ 0 := hB.bk
  obtain ⟨nl1, a1, a2, a3, a4, a5⟩ := hW1.left
  obtain ⟨nb1, b1, b2, b3⟩ := hW1.bk
  obtain ⟨nl2, c1, c2, c3, c4, c5⟩ := hW.left
  obtain ⟨nb2, d1, d2, d3⟩ := hW.bk
  dsimp only at a1 a3 a4 b1 b2 b3 c1 c3 c4 d1 d2 d3
  have z12 : ∀ i, st1.getD i 0 = 0 → i ≠ t → st.getD i 0 = 0 := by
    intro i hi hne
    have h1 := val0 i
    by_cases e1 : st.getD i 0 = 1
    · have := (one1 i).2 (by rw [g1, if_neg hne]; exact e1); omega
    · by_cases e2 : st.getD i 0 = 2
      · have := two1 i (by rw [g1, if_neg hne]; exact e2); omega
      · omega
  have s2z : ∀ i, (st1.set t 2).getD i 0 = 0 → i ≠ t ∧ st1.getD i 0 = 0 := by
    intro i hi
    rw [g2] at hi
    by_cases e : i = t
    · rw [if_pos e] at hi; omega
    · rw [if_neg e] at hi; exact ⟨e, hi⟩
  have nzz : ∀ i, st1.getD i 0 ≠ 0 → s'.1.getD i 0 ≠ 0 := by
    intro i hi
    refine hW.nzero (by show (st1.set t 2).getD i 0 ≤ 2; rw [g2]; have := val1 i; split <;> omega) ?_
    show (st1.set t 2).getD i 0 ≠ 0
    rw [g2]; split <;> omega
  have st't : s'.1.getD t 0 = 2 := two2 t (by rw [g2, if_pos rfl])
  refine ⟨?_, ?_, ?_, ?_, hW.val, ?_, ?_, ?_⟩
  · have := hW.len; simp at this; simp; omega
  · have h1 := hW.cnt
    have h2 := hW1.cnt
    have h3 := count_set0 hts h0 (v := 1) (by omega)
    have h4 := count_set1 ht1 (show st1.getD t 0 ≠ 0 by have := (one1 t).2 (by rw [g1, if_pos rfl]); omega) (v := 2) (by omega)
    simp at h1 h2 h3 h4 ⊢; omega
  · intro i
    rw [one2, g2]
    by_cases e : i = t
    · subst e; rw [if_pos rfl]; simp at h0 ⊢; omega
    · rw [if_neg e, one1, g1, if_neg e]
  · intro i hi
    have hne : i ≠ t := by intro e; subst e; simp at hi h0; omega
    exact two2 i (by rw [g2, if_neg hne]; exact two1 i (by rw [g1, if_neg hne]; exact hi))
  · intro x hx
    rcases List.mem_cons.1 hx with e | hx
    · subst e; omega
    · exact hW.nz x hx
  · refine ⟨nl1 ++ t :: nl2, by rw [c1, a1]; simp, ?_, ?_, ?_, ?_⟩
    · rw [List.nodup_append]
      refine ⟨a2, ?_, ?_⟩
      · rw [List.nodup_cons]
        refine ⟨fun h => ?_, c2⟩
        have := (c3 t).1 h
        exact (s2z t this.1).1 rfl
      · intro a ha b hb e
        subst e
        have h1 := (a3 a).1 ha
        rcases List.mem_cons.1 hb with e | hb
        · subst e; rw [g1, if_pos rfl] at h1; omega
        · have h2 := s2z a ((c3 a).1 hb).1; omega
    · intro i
      rw [List.mem_append, List.mem_cons, a3 i, c3 i]
      dsimp only
      constructor
      · rintro (⟨h1, h2⟩ | h1 | ⟨h1, h2⟩)
        · rw [g1] at h1
          by_cases e : i = t
          · rw [if_pos e] at h1; omega
          · rw [if_neg e] at h1
            exact ⟨h1, two2 i (by rw [g2, if_neg e]; exact h2)⟩
        · subst h1; exact ⟨h0, st't⟩
        · have := s2z i h1
          exact ⟨z12 i this.2 this.1, h2⟩
      · rintro ⟨h1, h2⟩
        by_cases e : i = t
        · exact .inr (.inl e)
        · have hv := val1 i
          by_cases e0 : st1.getD i 0 = 0
          · exact .inr (.inr ⟨by rw [g2, if_neg e]; exact e0, h2⟩)
          · by_cases e1 : st1.getD i 0 = 1
            · have := (one1 i).1 e1
              rw [g1, if_neg e] at this; omega
            · exact .inl ⟨by rw [g1, if_neg e]; exact h1, by omega⟩
    · intro p a q hpq u hu
      rcases split_three hpq with ⟨q', e⟩ | ⟨rfl, rfl⟩ | ⟨p', rfl, e⟩
      · obtain ⟨h1, h2⟩ := a4 p a q' e u hu
        refine ⟨nzz u h1, ?_⟩
        have ha := (a3 a).1 (by rw [e]; simp)
        have hat : a ≠ t := by intro e; subst e; rw [g1, if_pos rfl] at ha; omega
        have han : a ≠ n := by intro e; subst e; rw [g1, if_neg hat] at ha; omega
        rw [d1, List.mem_append, h2]
        constructor
        · rintro (h' | h')
          · exact h'
          · rcases (d2 a u h').1 with e | e
            · exact absurd e han
            · have := (s2z a e).2; omega
        · exact .inl
      · have h1 := nz1 u hu
        refine ⟨nzz u h1, ?_⟩
        rw [d1, b1, List.mem_append, List.mem_append]
        have hleft : u ∈ left ++ p ↔ st1.getD u 0 = 2 := by rw [← a1]; exact hl1 u
        have hv := val1 u
        constructor
        · rintro ((h' | h') | h') hm
          · exact hbk a u h' h0
          · have := ((b3 u).1 h').2
            have := (one1 u).2 this
            have := hleft.1 hm; omega
          · rcases (d2 a u h').1 with e | e
            · exact htn e
            · exact (s2z a e).1 rfl
        · intro hm
          refine .inl (.inr ((b3 u).2 ⟨hu, ?_⟩))
          refine (one1 u).1 ?_
          have : ¬ st1.getD u 0 = 2 := fun e => hm (hleft.2 e)
          omega
      · obtain ⟨h1, h2⟩ := c4 p' a q e u hu
        refine ⟨h1, ?_⟩
        rw [h2, a1]; simp
    · intro R hn hs hR i hi
      have hRt := hR t (List.mem_cons_self ..)
      rcases List.mem_append.1 hi with hi | hi
      · exact a5 R hRt hs (fun u hu => hs t u hRt hu) i hi
      · rcases List.mem_cons.1 hi with e | hi
        · subst e; exact hRt
        · exact c5 R hn hs (fun u hu => hR u (List.mem_cons_of_mem _ hu)) i hi
  · refine ⟨nb1 ++ nb2, by rw [d1, b1]; simp, ?_, ?_⟩
    · intro a b hab
      dsimp only
      rcases List.mem_append.1 hab with h' | h'
      · obtain ⟨h1, h2⟩ := b2 a b h'
        refine ⟨.inr ?_, nzz a h2⟩
        rcases h1 with e | e
        · subst e; exact h0
        · rw [g1] at e
          by_cases e2 : a = t
          · rw [if_pos e2] at e; omega
          · rw [if_neg e2] at e; exact e
      · obtain ⟨h1, h2⟩ := d2 a b h'
        refine ⟨?_, h2⟩
        rcases h1 with e | e
        · exact .inl e
        · have := s2z a e
          exact .inr (z12 a this.2 this.1)
    · intro x
      rw [List.mem_append, List.mem_cons]
      dsimp only
      constructor
      · rintro (h' | h')
        · rcases (b2 n x h').1 with e | e
          · exact absurd e.symm htn
          · rw [g1, if_neg (Ne.symm htn)] at e; omega
        · obtain ⟨h1, h2⟩ := (d3 x).1 h'
          rw [g2] at h2
          by_cases e : x = t
          · rw [if_pos e] at h2; omega
          · rw [if_neg e, one1, g1, if_neg e] at h2
            exact ⟨.inr h1, h2⟩
      · rintro ⟨h1, h2⟩
        have hxt : x ≠ t := by intro e; subst e; omega
        refine .inr ((d3 x).2 ⟨?_, ?_⟩)
        · rcases h1 with e | h1
          · exact absurd e hxt
          · exact h1
        · rw [g2, if_neg hxt, one1, g1, if_neg hxt]; exact h2
/-- behind a walk the left ones are those of state 2 -/
theorem left_after {l : List S45} {n : Nat} {o : List Nat} {s s' : W3} (hB : Before l n o s) (hW : Walked l n o s s') : ∀ i, i ∈ s'.2.1 ↔ s'.1.getD i 0 = 2 := by
  intro i
  obtain ⟨nl, e1, _, e3, _, _⟩ := hW.left
  rw [e1, List.mem_append, hB.left i, e3 i]
  constructor
  · rintro (h | h)
    · exact hW.two i h
    · exact h.2
  · intro h
    have hv := hB.val i
    by_cases h0 : s.1.getD i 0 = 0
    · exact .inr ⟨h0, h⟩
    · by_cases h1 : s.1.getD i 0 = 1
      · have := (hW.one i).2 h1; omega
      · exact .inl (by omega)
theorem bk_after {l : List S45} {n : Nat} {o : List Nat} {s s' : W3} (hB : Before l n o s) (hW : Walked l n o s s') : ∀ a b, (a, b) ∈ s'.2.2 → s'.1.getD a 0 ≠ 0 := by
  intro a b hab
  obtain ⟨nb, e1, e2, _⟩ := hW.bk
  rw [e1] at hab
  rcases List.mem_append.1 hab with h | h
  · exact hW.nzero (hB.val a) (hB.bk a b h)
  · exact (e2 a b h).2
theorem loop_all (l : List S45) : ∀ (c m n : Nat) (o : List Nat) (s : W3), s.1.count 0 ≤ c → o.length ≤ m → Before l n o s → ∃ s', Loop l n o s s' ∧ Walked l n o s s' := by
  intro c
  induction c using Nat.strongRecOn with
  | _ c ihc =>
  intro m
  induction m with
  | zero =>
    intro n o s hc hm hB
    obtain rfl : o = [] := List.length_eq_zero_iff.1 (by omega)
    refine ⟨s, .nil, rfl, Nat.le_refl _, fun _ => Iff.rfl, fun _ h => h, hB.val, fun t ht => by simp at ht, ⟨[], by simp, List.nodup_nil, fun i => ⟨fun h => by simp at h, fun h => by omega⟩, fun p a q h => by simp at h, fun R _ _ _ i hi => by simp at hi⟩, ⟨[], by simp, fun a b h => by simp at h, fun t => by simp⟩⟩
  | succ m ih =>
    intro n o s hc hm hB
    cases o with
    | nil => exact ih n [] s hc (Nat.zero_le _) hB
    | cons t o =>
      obtain ⟨st, left, bk⟩ := s
      have ht := hB.o t (List.mem_cons_self ..)
      have hts : t < st.length := by have := hB.len; simp at this; omega
      have ho : ∀ x ∈ o, x < l.length := fun x hx => hB.o x (List.mem_cons_of_mem _ hx)
      have n1 : st.getD n 0 = 1 := hB.n
      by_cases h1 : st.getD t 0 = 1
      · -- back
        obtain ⟨s', hL, hW⟩ := ih n o (st, left, bk ++ [(n, t)]) hc (by simp at hm; omega) ⟨hB.len, ho, hB.n, hB.val, hB.left, fun a b hab => by
          rcases List.mem_append.1 hab with h' | h'
          · exact hB.bk a b h'
          · have e : a = n ∧ b = t := by simpa using h'
            rw [e.1]; show st.getD n 0 ≠ 0; omega⟩
        refine ⟨s', .back h1 hL, hW.len, hW.cnt, hW.one, hW.two, hW.val, ?_, ?_, ?_⟩
        · intro x hx
          rcases List.mem_cons.1 hx with e | hx
          · subst e; have := (hW.one x).2 h1; omega
          · exact hW.nz x hx
        · obtain ⟨nl, e1, e2, e3, e4, e5⟩ := hW.left
          exact ⟨nl, e1, e2, e3, e4, fun R hn hs hR => e5 R hn hs (fun x hx => hR x (List.mem_cons_of_mem _ hx))⟩
        · obtain ⟨nb, e1, e2, e3⟩ := hW.bk
          refine ⟨(n, t) :: nb, by rw [e1]; simp, ?_, ?_⟩
          · intro a b hab
            rcases List.mem_cons.1 hab with h' | h'
            · injection h' with h' _
              subst h'
              have := (hW.one a).2 n1
              exact ⟨.inl rfl, by omega⟩
            · exact e2 a b h'
          · intro x
            rw [List.mem_cons, List.mem_cons, e3 x]
            constructor
            · rintro (h' | ⟨h', h''⟩)
              · injection h' with _ h'; subst h'; exact ⟨.inl rfl, h1⟩
              · exact ⟨.inr h', h''⟩
            · rintro ⟨h' | h', h''⟩
              · subst h'; exact .inl rfl
              · exact .inr ⟨h', h''⟩
      · by_cases h0 : st.getD t 0 = 0
        · -- into
          have hc1 := count_set0 hts h0 (v := 1) (by omega)
          have hcs : st.count 0 ≤ c := hc
          have g1 : ∀ i, (st.set t 1).getD i 0 = if i = t then 1 else st.getD i 0 := fun i => getD_set hts
          have htn : t ≠ n := by intro e; subst e; omega
          have hval : ∀ i, st.getD i 0 ≤ 2 := hB.val
          have hlf : ∀ i, i ∈ left ↔ st.getD i 0 = 2 := hB.left
          have hbk : ∀ a b, (a, b) ∈ bk → st.getD a 0 ≠ 0 := hB.bk
          have hB1 : Before l t (succ l t) (st.set t 1, left, bk) := ⟨by simp; exact hB.len, fun x hx => succ_lt hx, by rw [g1, if_pos rfl], fun i => by rw [g1]; have := hval i; split <;> omega, fun i => by
              rw [g1, hlf i]
              by_cases e : i = t
              · subst e; rw [if_pos rfl]; omega
              · rw [if_neg e], fun a b hab => by
              rw [g1]; have := hbk a b hab; split <;> omega⟩
          obtain ⟨⟨st1, left1, bk1⟩, hL1, hW1⟩ := ihc (c - 1) (by omega) (succ l t).length t (succ l t) (st.set t 1, left, bk) (by show (st.set t 1).count 0 ≤ c - 1; omega) (Nat.le_refl _) hB1
          have len1 : st1.length = st.length := by have := hW1.len; simpa using this
          have ht1 : t < st1.length := by omega
          have g2 : ∀ i, (st1.set t 2).getD i 0 = if i = t then 2 else st1.getD i 0 := fun i => getD_set ht1
          have one1 : ∀ i, st1.getD i 0 = 1 ↔ (st.set t 1).getD i 0 = 1 := hW1.one
          have val1 : ∀ i, st1.getD i 0 ≤ 2 := hW1.val
          have s1t : st1.getD t 0 = 1 := (one1 t).2 (by rw [g1, if_pos rfl])
          have hcnt2 := count_set1 ht1 (show st1.getD t 0 ≠ 0 by omega) (v := 2) (by omega)
          have hl1 : ∀ i, i ∈ left1 ↔ st1.getD i 0 = 2 := left_after hB1 hW1
          have hb1 : ∀ a b, (a, b) ∈ bk1 → st1.getD a 0 ≠ 0 := bk_after hB1 hW1
          obtain ⟨s', hL, hW⟩ := ihc (c - 1) (by omega) o.length n o (st1.set t 2, left1 ++ [t], bk1) (by have := hW1.cnt; show (st1.set t 2).count 0 ≤ c - 1; simp at this hc1 hcnt2 ⊢; omega) (Nat.le_refl _)
            ⟨by simp; rw [len1]; exact hB.len, ho, by rw [g2, if_neg (Ne.symm htn)]; exact (one1 n).2 (by rw [g1, if_neg (Ne.symm htn)]; exact n1), fun i => by rw [g2]; have := val1 i; split <;> omega, fun i => by
              rw [g2, List.mem_append, hl1 i]
              by_cases e : i = t
              · subst e; simp
              · rw [if_neg e]; simp [e], fun a b hab => by
              rw [g2]; have := hb1 a b hab; split <;> omega⟩
          exact ⟨s', .into h0 hL1 hL, walked_into hB h0 hW1 hW hl1⟩
        · -- skip
          have hval : ∀ i, st.getD i 0 ≤ 2 := hB.val
          have h2 : st.getD t 0 = 2 := by have := hval t; omega
          obtain ⟨s', hL, hW⟩ := ih n o (st, left, bk) hc (by simp at hm; omega) ⟨hB.len, ho, hB.n, hB.val, hB.left, hB.bk⟩
          refine ⟨s', .skip ⟨h0, h1⟩ hL, hW.len, hW.cnt, hW.one, hW.two, hW.val, ?_, ?_, ?_⟩
          · intro x hx
            rcases List.mem_cons.1 hx with e | hx
            · subst e; have := hW.two x h2; omega
            · exact hW.nz x hx
          · obtain ⟨nl, e1, e2, e3, e4, e5⟩ := hW.left
            exact ⟨nl, e1, e2, e3, e4, fun R hn hs hR => e5 R hn hs (fun x hx => hR x (List.mem_cons_of_mem _ hx))⟩
          · obtain ⟨nb, e1, e2, e3⟩ := hW.bk
            refine ⟨nb, e1, e2, fun x => ?_⟩
            rw [e3 x, List.mem_cons]
            constructor
            · rintro ⟨h', h''⟩; exact ⟨.inr h', h''⟩
            · rintro ⟨h' | h', h''⟩
              · subst h'; exact absurd h'' h1
              · exact ⟨h', h''⟩
end Go.Proofs.Ytppanpboejpmjaa.Mf
