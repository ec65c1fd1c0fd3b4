/- What the reference reads, what comes first in a block, where blocks lead; no program in sight. -/
import Derived.Test.YtppanpboejpmjaaMfA
set_option linter.all false
namespace Go.Proofs.Ytppanpboejpmjaa.Mf
open Go Go.RowKit Go.Proofs.Ytppanpboejpmjaa.Tr Go.Proofs.YtppanpboejpmjaaW.PrintWords Go.Proofs.YtppanpboejpmjaaW.PrintLast

theorem refUses (x : S84) (hl : x.f9.length ≤ 100000) : Ev (fun k => rushlightref13_Uses.f k x.f0 x.f1 x.f2 x.f3 x.f4 x.f5 x.f6 x.f7 x.f8 x.f9 x.f10) (usesOf x) := by
  obtain ⟨t, ht, hlen, h1, h0⟩ := fields_some x.f0
  unfold rushlightref13_Uses.f usesOf
  simp only [ht, Option.bind_some]
  have l0 : ∀ (d i : Nat) (a : List Int), i + d = x.f9.length → a.length ≤ i + 2 → Ev (fun k => rushlightref13_Uses.l0 k a t (i : Int) x.f0 x.f1 x.f2 x.f3 x.f4 x.f5 x.f6 x.f7 x.f8 x.f9 x.f10) (a ++ (if x.f0 = 9 then (x.f9.drop i).filter (fun y => y != -1) else [])) := by
    have stop : ∀ (i : Nat) (a : List Int), Ev (fun k => rushlightref13_Uses.j5 k a t (i : Int) false x.f0 x.f1 x.f2 x.f3 x.f4 x.f5 x.f6 x.f7 x.f8 x.f9 x.f10) a := by
      intro i a
      refine Ev.const fun k => ?_
      simp only [rushlightref13_Uses.j5]
      rw [if_neg (by simp)]
    by_cases h9 : x.f0 = 9
    · have ht0 : t.length > 0 := by
        rcases hlen with e | e
        · exact absurd h9 (h0 e).2.2.1
        · omega
      have ht8 : 8 < (t.length : Int) := by
        rcases hlen with e | e
        · subst e; simp at ht0
        · omega
      have h8 : rdOf false t 8 = true := by rw [(h1 ht0).2.2.1, h9]; rfl
      have body : ∀ (i : Nat) (a : List Int) (k : Nat), rushlightref13_Uses.l0 (k + 1) a t (i : Int) x.f0 x.f1 x.f2 x.f3 x.f4 x.f5 x.f6 x.f7 x.f8 x.f9 x.f10 = rushlightref13_Uses.j5 k a t (i : Int) (decide ((i : Int) < (x.f9.length : Int))) x.f0 x.f1 x.f2 x.f3 x.f4 x.f5 x.f6 x.f7 x.f8 x.f9 x.f10 := by
        intro i a k
        simp only [rushlightref13_Uses.l0]
        rw [if_pos (by omega), if_pos ht8, if_pos h8]
      intro d
      induction d with
      | zero =>
        intro i a hi ha
        have e : x.f9.drop i = [] := List.drop_of_length_le (by omega)
        rw [e, List.filter_nil, ite_self, List.append_nil]
        refine Ev.step (body i a) ?_
        rw [decide_eq_false (by omega)]
        exact stop i a
      | succ d ih =>
        intro i a hi ha
        obtain ⟨y, hy, e⟩ := drop_at (l := x.f9) (i := i) (by omega)
        rw [e, if_pos h9]
        refine Ev.step (body i a) ?_
        rw [decide_eq_true (by omega)]
        by_cases h : y = -1
        · subst h
          rw [List.filter_cons_of_neg (by simp)]
          have := ih (i + 1) a (by omega) (by omega)
          rw [if_pos h9] at this
          refine Ev.step (fun k => ?_) this
          simp only [rushlightref13_Uses.j5]
          rw [if_pos trivial, if_pos (by omega), if_pos (by omega), atn hy, if_pos rfl, next_i (by omega)]
        · rw [List.filter_cons_of_pos (by simpa using h)]
          have := ih (i + 1) (a ++ [y]) (by omega) (by simp; omega)
          rw [if_pos h9, List.append_assoc] at this
          refine Ev.step (fun k => ?_) this
          simp only [rushlightref13_Uses.j5]
          rw [if_pos trivial, if_pos (by omega), if_pos (by omega), atn hy, if_neg h, if_pos (by omega), next_i (by omega)]
    · intro d i a hi ha
      rw [if_neg h9, List.append_nil]
      refine Ev.step (f := fun k => rushlightref13_Uses.j5 k a t (i : Int) false x.f0 x.f1 x.f2 x.f3 x.f4 x.f5 x.f6 x.f7 x.f8 x.f9 x.f10) (fun k => ?_) (stop i a)
      simp only [rushlightref13_Uses.l0]
      rcases hlen with e | e
      · rw [if_neg (by rw [e]; decide)]
      · have h8 : rdOf false t 8 = false := by rw [(h1 (by omega)).2.2.1]; exact beq_eq_false_iff_ne.mpr h9
        rw [if_pos (by omega), if_pos (by omega), if_neg (by rw [h8]; simp)]
  have j3 : ∀ a : List Int, a.length ≤ 2 → Ev (fun k => rushlightref13_Uses.j3 k a t x.f0 x.f1 x.f2 x.f3 x.f4 x.f5 x.f6 x.f7 x.f8 x.f9 x.f10) (a ++ (if x.f0 = 9 then x.f9.filter (fun y => y != -1) else [])) := by
    intro a ha
    have := l0 x.f9.length 0 a (by omega) (by omega)
    exact Ev.step (f := fun k => rushlightref13_Uses.l0 k a t 0 x.f0 x.f1 x.f2 x.f3 x.f4 x.f5 x.f6 x.f7 x.f8 x.f9 x.f10) (fun k => by simp only [rushlightref13_Uses.j3]) this
  have j2 : ∀ (a : List Int) (c : Bool), a.length ≤ 1 → Ev (fun k => rushlightref13_Uses.j2 k a t c x.f0 x.f1 x.f2 x.f3 x.f4 x.f5 x.f6 x.f7 x.f8 x.f9 x.f10) (a ++ (if c = true then [x.f3] else []) ++ (if x.f0 = 9 then x.f9.filter (fun y => y != -1) else [])) := by
    intro a c ha
    cases c with
    | false =>
      rw [if_neg (by simp), List.append_nil]
      refine Ev.step (fun k => ?_) (j3 a (by omega))
      simp only [rushlightref13_Uses.j2]
      rw [if_neg (by simp)]
    | true =>
      rw [if_pos rfl]
      refine Ev.step (fun k => ?_) (j3 (a ++ [x.f3]) (by simp; omega))
      simp only [rushlightref13_Uses.j2]
      rw [if_pos trivial, if_pos (by omega)]
  have j1 : ∀ (a : List Int), a.length ≤ 1 → Ev (fun k => rushlightref13_Uses.j1 k a t x.f0 x.f1 x.f2 x.f3 x.f4 x.f5 x.f6 x.f7 x.f8 x.f9 x.f10) (a ++ (if (rdB x.f0 && x.f3 != -1) = true then [x.f3] else []) ++ (if x.f0 = 9 then x.f9.filter (fun y => y != -1) else [])) := by
    intro a ha
    refine Ev.step (fun k => ?_) (j2 a (rdB x.f0 && x.f3 != -1) ha)
    simp only [rushlightref13_Uses.j1]
    rcases hlen with e | e
    · rw [if_neg (by rw [e]; decide), (h0 e).2.1]; rfl
    · rw [if_pos (by omega), if_pos (by omega), (h1 (by omega)).2.1]
      cases rdB x.f0 <;> simp
  have j0 : ∀ (c : Bool), Ev (fun k => rushlightref13_Uses.j0 k [] t c x.f0 x.f1 x.f2 x.f3 x.f4 x.f5 x.f6 x.f7 x.f8 x.f9 x.f10) ((if c = true then [x.f2] else []) ++ (if (rdB x.f0 && x.f3 != -1) = true then [x.f3] else []) ++ (if x.f0 = 9 then x.f9.filter (fun y => y != -1) else [])) := by
    intro c
    cases c with
    | false =>
      rw [if_neg (by simp)]
      refine Ev.step (fun k => ?_) (j1 [] (by simp))
      simp only [rushlightref13_Uses.j0]
      rw [if_neg (by simp)]
    | true =>
      rw [if_pos rfl]
      refine Ev.step (fun k => ?_) (j1 [x.f2] (by simp))
      simp only [rushlightref13_Uses.j0]
      rw [if_pos trivial, if_pos (by simp)]; rfl
  refine Ev.congr (fun k => ?_) (j0 (rdA x.f0 && x.f2 != -1))
  rcases hlen with e | e
  · rw [if_neg (by rw [e]; decide), (h0 e).1]; rfl
  · rw [if_pos (by omega), if_pos (by omega), (h1 (by omega)).1]
    cases rdA x.f0 <;> simp
theorem uses_len (x : S84) : (usesOf x).length ≤ 2 + x.f9.length := by
  unfold usesOf
  have := List.length_filter_le (fun y : Int => y != -1) x.f9
  rw [List.length_append, List.length_append]
  split <;> split <;> split <;> simp <;> omega

/-! #### what comes first: 1 read, 2 set, 0 neither -/
def evOf : List S84 → Int → Int
  | [], _ => 0
  | x :: l, r => if r ∈ usesOf x then 1 else if defOf x = r then 2 else evOf l r
def endR (b : S45) (r : Int) : Prop := (b.f1 = 2 ∨ b.f1 = 3) ∧ b.f2 = r
instance (b : S45) (r : Int) : Decidable (endR b r) := by unfold endR; exact inferInstance
def withinOf (b : S45) (l : List S84) (r : Int) : Int := if evOf l r = 0 then (if endR b r then 1 else 0) else evOf l r
/-- a block that is not too large -/
def okB (b : S45) : Prop := b.f0.length ≤ 60 ∧ ∀ x ∈ b.f0, x.f9.length ≤ 12
theorem within_ev (b : S45) (hb : okB b) (r : Int) : ∀ (d i : Nat), i + d = b.f0.length → Ev (fun k => rushlightref16_within.f k b.f0 b.f1 b.f2 b.f3 b.f4 (i : Int) r) (withinOf b (b.f0.drop i) r) := by
  intro d
  unfold rushlightref16_within.f
  induction d with
  | zero =>
    intro i hi
    have e : b.f0.drop i = [] := List.drop_of_length_le (by omega)
    rw [e]
    refine Ev.const fun k => ?_
    simp only [rushlightref16_within.l0]
    rw [if_neg (by omega)]
    unfold withinOf evOf endR
    by_cases h2 : b.f1 = 2
    · by_cases h : b.f2 = r <;> simp [h2, h]
    · by_cases h3 : b.f1 = 3
      · by_cases h : b.f2 = r <;> simp [h3, h]
      · simp [h2, h3]
  | succ d ih =>
    intro i hi
    obtain ⟨x, hx, e⟩ := drop_at (l := b.f0) (i := i) (by omega)
    have hx9 := hb.2 x (List.mem_of_getElem? hx)
    have hlen := hb.1
    have hul := uses_len x
    rw [e]
    refine Ev.step (f := fun k => (rushlightref13_Uses.f k x.f0 x.f1 x.f2 x.f3 x.f4 x.f5 x.f6 x.f7 x.f8 x.f9 x.f10).bind fun t350 => ((rushlightref16_has.f k t350 r).bind fun t353 => (if t353 = true then (some 1) else ((rushlightref13_Def.f x.f0 x.f1 x.f2 x.f3 x.f4 x.f5 x.f6 x.f7 x.f8 x.f9 x.f10).bind fun t355 => (if t355 = r then (some 2) else (rushlightref16_within.l0 k r ((i + 1 : Nat) : Int) b.f0 b.f1 b.f2 b.f3 b.f4)))))) (fun k => ?_) ?_
    · simp only [rushlightref16_within.l0]
      rw [if_pos (by omega), if_pos (by omega), at84 hx, next_i (by omega)]
    · refine Ev.bind (refUses x (by omega)) ?_
      refine Ev.bind (has_ev (usesOf x) r (by omega)) ?_
      by_cases h1 : r ∈ usesOf x
      · simp only [decide_eq_true h1, if_true]
        have : withinOf b (x :: b.f0.drop (i + 1)) r = 1 := by unfold withinOf evOf; simp [h1]
        rw [this]; exact Ev.now _
      · simp only [decide_eq_false h1, Bool.false_eq_true, if_false, refDef x, Option.bind_some]
        by_cases h2 : defOf x = r
        · simp only [if_pos h2]
          have : withinOf b (x :: b.f0.drop (i + 1)) r = 2 := by unfold withinOf evOf; simp [h1, h2]
          rw [this]; exact Ev.now _
        · simp only [if_neg h2]
          have : withinOf b (x :: b.f0.drop (i + 1)) r = withinOf b (b.f0.drop (i + 1)) r := by unfold withinOf; rw [show evOf (x :: b.f0.drop (i + 1)) r = evOf (b.f0.drop (i + 1)) r from by rw [evOf]; simp [h1, h2]]
          rw [this]
          exact ih (i + 1) (by omega)

/-! #### where a block leads -/
def baseOuts (b : S45) : List Int := if b.f1 = 1 then [b.f3] else if b.f1 = 2 then (if b.f3 = b.f4 then [b.f3] else [b.f3, b.f4]) else []
def outsOf (l : List S45) (n : Nat) : List Int := (baseOuts (l.getD n z45)).filter (fun x => !flow_not l.length x)
theorem baseOuts_len (b : S45) : (baseOuts b).length ≤ 2 := by
  unfold baseOuts
  split
  · simp
  · split
    · split <;> simp
    · simp
theorem outs_len (l : List S45) (n : Nat) : (outsOf l n).length ≤ 2 := Nat.le_trans (List.length_filter_le _ _) (baseOuts_len _)
theorem outs_mem {l : List S45} {n : Nat} {x : Int} (h : x ∈ outsOf l n) : 0 ≤ x ∧ x < (l.length : Int) := by
  have := (List.mem_filter.1 h).2
  simp only [flow_not, Bool.not_or, Bool.and_eq_true, Bool.not_eq_true', decide_eq_false_iff_not] at this
  omega
theorem irOuts (b : S45) : Ev (fun k => ir_Outs.f k b.f0 b.f1 b.f2 b.f3 b.f4) (baseOuts b) := by
  unfold ir_Outs.f baseOuts
  by_cases h1 : b.f1 = 1
  · simp only [if_pos h1]
    refine Ev.const fun k => ?_
    simp [ir_Outs.j0]
  · simp only [if_neg h1]
    by_cases h2 : b.f1 = 2
    · simp only [if_pos h2]
      refine Ev.const fun k => ?_
      by_cases h : b.f3 = b.f4 <;> simp [ir_Outs.j0, h, h2]
    · simp only [if_neg h2]
      refine Ev.const fun k => ?_
      simp [ir_Outs.j0, h2]
theorem flowOuts (a0 : ByteArray) (a1 : Bool) (a2 a3 : Int) (l4 : List S76) (l5 : List S45) (n : Nat) (hn : n < l5.length) : Ev (fun k => flow_outs.f k a0 a1 a2 a3 l4 l5 (n : Int)) (outsOf l5 n) := by
  unfold flow_outs.f
  simp only [if_pos (show (0 : Int) ≤ (n : Int) by omega), if_pos (show (n : Int) < (l5.length : Int) by omega)]
  have e : rd_T45 l5 (n : Int) = l5.getD n z45 := by simp [rd_T45]
  rw [e]
  exact Ev.bind (irOuts (l5.getD n z45)) (Ev.now _)
theorem refOuts (a0 : ByteArray) (a1 : Bool) (a2 a3 : Int) (l4 : List S76) (l5 : List S45) (n : Nat) (hn : n < l5.length) : Ev (fun k => rushlightref16_Outs.f k a0 a1 a2 a3 l4 l5 (n : Int)) (outsOf l5 n) := by
  unfold rushlightref16_Outs.f
  simp only [if_pos (show (0 : Int) ≤ (n : Int) by omega), if_pos (show (n : Int) < (l5.length : Int) by omega)]
  have e : rd_T45 l5 (n : Int) = l5.getD n z45 := by simp [rd_T45]
  rw [e]
  have hb : Ev (fun k => rushlightref13_Outs.f k (l5.getD n z45).f0 (l5.getD n z45).f1 (l5.getD n z45).f2 (l5.getD n z45).f3 (l5.getD n z45).f4) (baseOuts (l5.getD n z45)) := by
    generalize l5.getD n z45 = b
    unfold rushlightref13_Outs.f baseOuts
    by_cases h1 : b.f1 = 1
    · simp only [if_pos h1]
      refine Ev.const fun k => ?_
      simp [rushlightref13_Outs.j0, h1]
    · simp only [if_neg h1]
      by_cases h2 : b.f1 = 2
      · simp only [if_pos h2]
        refine Ev.const fun k => ?_
        by_cases h : b.f3 = b.f4
        · simp [rushlightref13_Outs.j0, h, h2]
        · simp [rushlightref13_Outs.j0, h, h2, Ne.symm h]
      · simp only [if_neg h2]
        refine Ev.const fun k => ?_
        simp [rushlightref13_Outs.j0, h2]
  refine Ev.bind hb ?_
  unfold outsOf
  have hl := baseOuts_len (l5.getD n z45)
  generalize baseOuts (l5.getD n z45) = t at hl
  have loop : ∀ (d i : Nat) (a : List Int), i + d = t.length → a.length ≤ i → Ev (fun k => rushlightref16_Outs.l0 k a t (i : Int) a0 a1 a2 a3 l4 l5) (a ++ (t.drop i).filter (fun x => !flow_not l5.length x)) := by
    intro d
    induction d with
    | zero =>
      intro i a hi ha
      have e : t.drop i = [] := List.drop_of_length_le (by omega)
      rw [e, List.filter_nil, List.append_nil]
      refine Ev.const fun k => ?_
      simp only [rushlightref16_Outs.l0]
      rw [if_neg (by omega)]
    | succ d ih =>
      intro i a hi ha
      obtain ⟨x, hx, e⟩ := drop_at (l := t) (i := i) (by omega)
      rw [e]
      by_cases h0 : 0 ≤ x
      · by_cases h1 : x < (l5.length : Int)
        · rw [List.filter_cons_of_pos (by simp [flow_not]; omega)]
          have := ih (i + 1) (a ++ [x]) (by omega) (by simp; omega)
          rw [List.append_assoc] at this
          refine Ev.step (fun k => ?_) this
          simp only [rushlightref16_Outs.l0]
          rw [if_pos (by omega), if_pos (by omega), atn hx, if_pos h0, if_pos h1, if_pos (by omega), next_i (by omega)]
        · rw [List.filter_cons_of_neg (by simp [flow_not]; omega)]
          refine Ev.step (fun k => ?_) (ih (i + 1) a (by omega) (by omega))
          simp only [rushlightref16_Outs.l0]
          rw [if_pos (by omega), if_pos (by omega), atn hx, if_pos h0, if_neg h1, next_i (by omega)]
      · rw [List.filter_cons_of_neg (by simp [flow_not]; omega)]
        refine Ev.step (fun k => ?_) (ih (i + 1) a (by omega) (by omega))
        simp only [rushlightref16_Outs.l0]
        rw [if_pos (by omega), if_pos (by omega), atn hx, if_neg h0, next_i (by omega)]
  exact loop t.length 0 [] (by omega) (by simp)
end Go.Proofs.Ytppanpboejpmjaa.Mf
