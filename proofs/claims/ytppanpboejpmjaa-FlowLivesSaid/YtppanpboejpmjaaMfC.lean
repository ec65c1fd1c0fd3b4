/- What the compiler's joins, steps and rounds over live registers come to; no program in sight. -/
import Derived.Test.YtppanpboejpmjaaMfB
set_option linter.all false
namespace Go.Proofs.Ytppanpboejpmjaa.Mf
open Go Go.RowKit Go.Proofs.Ytppanpboejpmjaa.Tr Go.Proofs.YtppanpboejpmjaaW.PrintWords Go.Proofs.YtppanpboejpmjaaW.PrintLast

/-! #### joins -/
def orL : List Bool → List Bool → List Bool
  | x :: b, y :: c => (x || y) :: orL b c
  | b, _ => b
def anyNew : List Bool → List Bool → Bool
  | x :: b, y :: c => (y && !x) || anyNew b c
  | _, _ => false
theorem orL_length : ∀ (b c : List Bool), (orL b c).length = b.length
  | [], _ => by simp [orL]
  | x :: b, [] => by simp [orL]
  | x :: b, y :: c => by simp [orL, orL_length b c]
theorem orL_getD : ∀ (b c : List Bool) (r : Nat), r < b.length → (orL b c).getD r false = (b.getD r false || c.getD r false)
  | [], _, r, h => by simp at h
  | x :: b, [], r, h => by simp [orL]
  | x :: b, y :: c, 0, h => by simp [orL]
  | x :: b, y :: c, r + 1, h => by
    have := orL_getD b c r (by simpa using h)
    simpa [orL] using this
theorem anyNew_false : ∀ {b c : List Bool}, anyNew b c = false → orL b c = b
  | [], _, _ => by simp [orL]
  | x :: b, [], _ => by simp [orL]
  | x :: b, y :: c, h => by
    simp only [anyNew, Bool.or_eq_false_iff] at h
    rw [orL, anyNew_false h.2]
    cases x <;> cases y <;> simp at h ⊢
def cntB (b : List Bool) : Nat := b.count true
theorem cntB_orL : ∀ (b c : List Bool), cntB b + (anyNew b c).toNat ≤ cntB (orL b c)
  | [], _ => by simp [orL, anyNew, cntB]
  | x :: b, [] => by simp [orL, anyNew, cntB]
  | x :: b, y :: c => by
    have := cntB_orL b c
    unfold cntB at *
    simp only [orL, anyNew]
    cases x <;> cases y <;> simp at this ⊢ <;> omega
theorem join_ev (b c : List Bool) (hb : b.length = c.length) (hn : c.length ≤ 1000) : Ev (fun k => flow_join.f k b c) (anyNew b c, orL b c) := by
  have loop : ∀ (d i : Nat) (s : List Bool) (g : Bool), i + d = c.length → s.length = c.length → Ev (fun k => flow_join.l0 k s g c (c.length : Int) (i : Int)) (g || anyNew (s.drop i) (c.drop i), s.take i ++ orL (s.drop i) (c.drop i)) := by
    intro d
    induction d with
    | zero =>
      intro i s g hi hs
      have e : c.drop i = [] := List.drop_of_length_le (by omega)
      have e2 : s.drop i = [] := List.drop_of_length_le (by omega)
      rw [e, e2]
      refine Ev.const fun k => ?_
      simp only [flow_join.l0]
      rw [if_neg (by omega)]
      simp [anyNew, orL, List.take_of_length_le (show s.length ≤ i by omega)]
    | succ d ih =>
      intro i s g hi hs
      obtain ⟨y, hy, e⟩ := drop_at (l := c) (i := i) (by omega)
      obtain ⟨x, hx, e2⟩ := drop_at (l := s) (i := i) (by omega)
      have hi1 := (List.getElem?_eq_some_iff.1 hx).1
      rw [e, e2]
      simp only [anyNew, orL]
      have ts : s.take (i + 1) = s.take i ++ [x] := by rw [List.take_succ, hx]; rfl
      cases y with
      | false =>
        have := ih (i + 1) s g (by omega) hs
        rw [ts, List.append_assoc] at this
        refine Ev.step (f := fun k => flow_join.l0 k s g c (c.length : Int) ((i + 1 : Nat) : Int)) (fun k => ?_) (by simpa using this)
        simp only [flow_join.l0]
        rw [if_pos (by omega), if_pos (by omega), if_pos (by omega), atb hy, if_neg (by simp), next_i (by omega)]
      | true =>
        cases x with
        | true =>
          have := ih (i + 1) s g (by omega) hs
          rw [ts, List.append_assoc] at this
          refine Ev.step (f := fun k => flow_join.l0 k s g c (c.length : Int) ((i + 1 : Nat) : Int)) (fun k => ?_) (by simpa using this)
          simp only [flow_join.l0]
          rw [if_pos (by omega), if_pos (by omega), if_pos (by omega), atb hy, if_pos rfl, if_pos (by omega), atb hx, if_pos rfl, next_i (by omega)]
        | false =>
          have := ih (i + 1) (s.set i true) true (by omega) (by simpa using hs)
          have ts2 : (s.set i true).take (i + 1) = s.take i ++ [true] := by
            rw [List.take_succ, List.getElem?_set_self hi1, List.take_set_of_le (Nat.le_refl _)]; rfl
          have ds : (s.set i true).drop (i + 1) = s.drop (i + 1) := List.drop_set_of_lt (Nat.lt_succ_self _)
          rw [ts2, ds, List.append_assoc] at this
          refine Ev.step (f := fun k => flow_join.l0 k (s.set i true) true c (c.length : Int) ((i + 1 : Nat) : Int)) (fun k => ?_) (by simpa using this)
          simp only [flow_join.l0]
          rw [if_pos (by omega), if_pos (by omega), if_pos (by omega), atb hy, if_pos rfl, if_pos (by omega), atb hx, if_neg (by simp), next_i (by omega), Int.toNat_natCast]
  have := loop c.length 0 b false (by omega) hb
  simpa [flow_join.f] using this

/-! #### marks -/
def markP (b : List Bool) (r : Int) (v : Bool) : List Bool := if 0 ≤ r ∧ r < (b.length : Int) then b.set r.toNat v else b
theorem mark_eq (b : List Bool) (r : Int) (v : Bool) : flow_mark.f b r v = some (markP b r v) := by
  unfold flow_mark.f markP
  by_cases h0 : 0 ≤ r
  · by_cases h1 : r < (b.length : Int)
    · rw [if_pos h0, if_pos h1, if_pos h0, if_pos ⟨h0, h1⟩]
    · rw [if_pos h0, if_neg h1, if_neg (fun h => h1 h.2)]
  · rw [if_neg h0, if_neg (fun h => h0 h.1)]
theorem mark_len (b : List Bool) (r : Int) (v : Bool) : (markP b r v).length = b.length := by unfold markP; split <;> simp
theorem mark_getD (b : List Bool) (x : Int) (v : Bool) (r : Nat) (hr : r < b.length) : (markP b x v).getD r false = if x = (r : Int) then v else b.getD r false := by
  unfold markP
  by_cases h : x = (r : Int)
  · subst h
    rw [if_pos rfl, if_pos ⟨by omega, by omega⟩, Int.toNat_natCast, List.getD_eq_getElem?_getD, List.getElem?_set_self hr]; rfl
  · rw [if_neg h]
    split
    · rw [List.getD_eq_getElem?_getD, List.getElem?_set_ne (by omega), List.getD_eq_getElem?_getD]
    · rfl
theorem ended_eq (b : List Bool) (x : S45) : flow_ended.f b x.f0 x.f1 x.f2 x.f3 x.f4 = some (if x.f1 = 2 ∨ x.f1 = 3 then markP b x.f2 true else b) := by
  unfold flow_ended.f
  simp only [mark_eq, Option.bind_some]
  by_cases h2 : x.f1 = 2
  · simp [h2]
  · by_cases h3 : x.f1 = 3 <;> simp [h2, h3]
def beforeP (b : List Bool) (x : S84) : List Bool := (usesOf x).foldl (fun b r => markP b r true) (markP b (defOf x) false)
theorem before_ev (b : List Bool) (x : S84) (hx : x.f9.length ≤ 12) : Ev (fun k => flow_before.f k b x.f0 x.f1 x.f2 x.f3 x.f4 x.f5 x.f6 x.f7 x.f8 x.f9 x.f10) (beforeP b x) := by
  unfold flow_before.f beforeP
  simp only [irDef, Option.bind_some, mark_eq]
  refine Ev.bind (irUses x (by omega)) ?_
  have hl := uses_len x
  generalize markP b (defOf x) false = s
  generalize usesOf x = u at hl
  have loop : ∀ (d i : Nat) (s : List Bool), i + d = u.length → Ev (fun k => flow_before.l0 k s u (u.length : Int) (i : Int)) ((u.drop i).foldl (fun b r => markP b r true) s) := by
    intro d
    induction d with
    | zero =>
      intro i s hi
      have e : u.drop i = [] := List.drop_of_length_le (by omega)
      rw [e]
      refine Ev.const fun k => ?_
      simp only [flow_before.l0]
      rw [if_neg (by omega)]; rfl
    | succ d ih =>
      intro i s hi
      obtain ⟨y, hy, e⟩ := drop_at (l := u) (i := i) (by omega)
      rw [e, List.foldl_cons]
      refine Ev.step (fun k => ?_) (ih (i + 1) (markP s y true) (by omega))
      simp only [flow_before.l0]
      rw [if_pos (by omega), if_pos (by omega), if_pos (by omega), atn hy, mark_eq, Option.bind_some, next_i (by omega)]
  exact loop u.length 0 s (by omega)
theorem marks_len : ∀ (u : List Int) (s : List Bool), (u.foldl (fun b r => markP b r true) s).length = s.length
  | [], s => rfl
  | y :: u, s => by rw [List.foldl_cons, marks_len u, mark_len]
theorem marks_getD : ∀ (u : List Int) (s : List Bool) (r : Nat), r < s.length → (u.foldl (fun b r => markP b r true) s).getD r false = (decide ((r : Int) ∈ u) || s.getD r false)
  | [], s, r, h => by simp
  | y :: u, s, r, h => by
    rw [List.foldl_cons, marks_getD u (markP s y true) r (by rw [mark_len]; exact h), mark_getD s y true r h]
    by_cases e : y = (r : Int)
    · simp [e]
    · have e2 : ¬ (r : Int) = y := fun h => e h.symm
      simp [e, e2]
theorem before_len (b : List Bool) (x : S84) : (beforeP b x).length = b.length := by unfold beforeP; rw [marks_len, mark_len]
theorem before_getD (b : List Bool) (x : S84) (r : Nat) (hr : r < b.length) : (beforeP b x).getD r false = (decide ((r : Int) ∈ usesOf x) || (!(defOf x == (r : Int)) && b.getD r false)) := by
  unfold beforeP
  rw [marks_getD _ _ r (by rw [mark_len]; exact hr), mark_getD b _ _ r hr]
  by_cases h : defOf x = (r : Int)
  · simp [h]
  · have e : (defOf x == (r : Int)) = false := beq_eq_false_iff_ne.mpr h
    rw [if_neg h, e]; simp

/-! #### a block's instructions, backward -/
def insP : List S84 → List Bool → List Bool
  | [], b => b
  | x :: l, b => beforeP (insP l b) x
theorem insP_len : ∀ (l : List S84) (b : List Bool), (insP l b).length = b.length
  | [], b => rfl
  | x :: l, b => by rw [insP, before_len, insP_len l b]
theorem ins_ev (l : List S84) (hl : ∀ x ∈ l, x.f9.length ≤ 12) (b : List Bool) : Ev (fun k => flow_Live.ins k l b) (insP l b) := by
  have gen : ∀ (m : List S84), (∀ x ∈ m, x.f9.length ≤ 12) → ∀ b, Ev (fun k => m.foldlM (flow_Live.bf k) b) (m.foldl beforeP b) := by
    intro m
    induction m with
    | nil => intro _ b; simp only [List.foldlM_nil, List.foldl_nil]; exact Ev.now _
    | cons x m ih =>
      intro hm b
      simp only [List.foldlM_cons, List.foldl_cons]
      exact Ev.bind (f := fun k b => m.foldlM (flow_Live.bf k) b) (before_ev b x (hm x (List.mem_cons_self ..))) (ih (fun y hy => hm y (List.mem_cons_of_mem _ hy)) _)
  have e : ∀ (l : List S84) (b : List Bool), insP l b = l.reverse.foldl beforeP b := by
    intro l
    induction l with
    | nil => intro b; rfl
    | cons x l ih => intro b; rw [insP, ih, List.reverse_cons, List.foldl_append]; rfl
  rw [e]
  exact gen l.reverse (fun x hx => hl x (List.mem_reverse.1 hx)) b
theorem insP_getD : ∀ (l : List S84) (b : List Bool) (r : Nat), r < b.length → ((insP l b).getD r false = true ↔ evOf l (r : Int) = 1 ∨ (evOf l (r : Int) = 0 ∧ b.getD r false = true))
  | [], b, r, h => by simp [insP, evOf]
  | x :: l, b, r, h => by
    rw [insP, before_getD _ x r (by rw [insP_len]; exact h), evOf]
    have := insP_getD l b r h
    by_cases h1 : (r : Int) ∈ usesOf x
    · simp [h1]
    · by_cases h2 : defOf x = (r : Int)
      · simp [h1, h2]
      · rw [if_neg h1, if_neg h2]; simpa [h1, h2] using this
theorem evOf_cases : ∀ (l : List S84) (r : Int), evOf l r = 0 ∨ evOf l r = 1 ∨ evOf l r = 2
  | [], r => by simp [evOf]
  | x :: l, r => by
    rw [evOf]
    split
    · simp
    · split
      · simp
      · exact evOf_cases l r
end Go.Proofs.Ytppanpboejpmjaa.Mf
