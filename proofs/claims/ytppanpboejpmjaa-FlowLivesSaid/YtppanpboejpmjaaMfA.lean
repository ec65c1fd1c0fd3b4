/- What the flow functions and the reference's come to: instructions, outs, joins; no program in sight. -/
import Derived.Test.YtppanpboejpmjaaFlowK
import Derived.Test.YtppanpboejpmjaaTr4
import Derived.Test.YtppanpboejpmjaaTr5
import Derived.Test.YtppanpboejpmjaaTr6
set_option linter.all false
namespace Go.Proofs.Ytppanpboejpmjaa.Mf
open Go Go.RowKit Go.Proofs.Ytppanpboejpmjaa.Tr Go.Proofs.YtppanpboejpmjaaW.PrintWords Go.Proofs.YtppanpboejpmjaaW.PrintLast

theorem w64 {a : Int} (h0 : -9223372036854775808 ≤ a) (h1 : a ≤ 9223372036854775807) : wrap64 a = a := by
  unfold wrap64; omega
theorem next_i {i : Nat} (h : i ≤ 1000000000) : wrap64 ((i : Int) + 1) = ((i + 1 : Nat) : Int) := by
  rw [w64 (by omega) (by omega)]; rfl
theorem atn {l : List Int} {i : Nat} {x : Int} (h : l[i]? = some x) : rd l (i : Int) = x := by
  unfold rd; rw [Int.toNat_natCast, List.getD_eq_getElem?_getD, h]; rfl
theorem atb {l : List Bool} {i : Nat} {x : Bool} (h : l[i]? = some x) : rdOf false l (i : Int) = x := by
  unfold rdOf; rw [Int.toNat_natCast, List.getD_eq_getElem?_getD, h]; rfl
theorem at84 {l : List S84} {i : Nat} {x : S84} (h : l[i]? = some x) : rd_T84 l (i : Int) = x := by
  unfold rd_T84; rw [Int.toNat_natCast, List.getD_eq_getElem?_getD, h]; rfl
theorem at45 {l : List S45} {i : Nat} {x : S45} (h : l[i]? = some x) : rd_T45 l (i : Int) = x := by
  unfold rd_T45; rw [Int.toNat_natCast, List.getD_eq_getElem?_getD, h]; rfl
theorem drop_at {α : Type} {l : List α} {i : Nat} (h : i < l.length) : ∃ x, l[i]? = some x ∧ l.drop i = x :: l.drop (i + 1) :=
  ⟨l[i], List.getElem?_eq_getElem h, List.drop_eq_getElem_cons h⟩
theorem Ev.const {α : Type} {g : Nat → Option α} {r : α} (h : ∀ k, g (k + 1) = some r) : Ev g r := Ev.step h (Ev.now r)

/-! #### instructions -/
def rdA (op : Int) : Bool := op == 2 || op == 3 || op == 4 || op == 5 || op == 6 || op == 10
def rdB (op : Int) : Bool := op == 3 || op == 6
def usesOf (x : S84) : List Int := (if (rdA x.f0 && x.f2 != -1) = true then [x.f2] else []) ++ (if (rdB x.f0 && x.f3 != -1) = true then [x.f3] else []) ++ (if x.f0 = 9 then x.f9.filter (fun y => y != -1) else [])
def defOf (x : S84) : Int := if x.f0 = 1 ∨ x.f0 = 2 ∨ x.f0 = 3 ∨ x.f0 = 4 ∨ x.f0 = 5 ∨ x.f0 = 7 ∨ x.f0 = 8 ∨ x.f0 = 9 ∨ x.f0 = 11 then x.f1 else -1
theorem irDef (x : S84) : ir_Def.f x.f0 x.f1 x.f2 x.f3 x.f4 x.f5 x.f6 x.f7 x.f8 x.f9 x.f10 = some (defOf x) := by
  unfold ir_Def.f defOf
  by_cases h1 : x.f0 = 1
  · simp [h1]
  by_cases h2 : x.f0 = 2
  · simp [h2]
  by_cases h3 : x.f0 = 3
  · simp [h3]
  by_cases h4 : x.f0 = 4
  · simp [h4]
  by_cases h5 : x.f0 = 5
  · simp [h5]
  by_cases h7 : x.f0 = 7
  · simp [h7]
  by_cases h8 : x.f0 = 8
  · simp [h8]
  by_cases h9 : x.f0 = 9
  · simp [h9]
  by_cases h11 : x.f0 = 11
  · simp [h11]
  simp [h1, h2, h3, h4, h5, h7, h8, h9, h11]
theorem uses_loop (l : List Int) (hl : l.length ≤ 100000) : ∀ (d i : Nat) (a : List Int), i + d = l.length → a.length ≤ i + 2 → Ev (fun k => ir_Uses.l0 k a l (l.length : Int) (i : Int)) (a ++ (l.drop i).filter (fun y => y != -1)) := by
  intro d
  induction d with
  | zero =>
    intro i a hi ha
    have e : l.drop i = [] := List.drop_of_length_le (by omega)
    rw [e, List.filter_nil, List.append_nil]
    refine Ev.const fun k => ?_
    simp only [ir_Uses.l0]
    rw [if_neg (by omega)]
  | succ d ih =>
    intro i a hi ha
    obtain ⟨x, hx, e⟩ := drop_at (l := l) (i := i) (by omega)
    rw [e]
    by_cases h : x = -1
    · subst h
      rw [List.filter_cons_of_neg (by simp)]
      refine Ev.step (f := fun k => ir_Uses.l0 k a l (l.length : Int) ((i + 1 : Nat) : Int)) (fun k => ?_) (ih (i + 1) a (by omega) (by omega))
      simp only [ir_Uses.l0]
      rw [if_pos (by omega), if_pos (by omega), if_pos (by omega), atn hx, if_pos rfl, next_i (by omega)]
    · rw [List.filter_cons_of_pos (by simpa using h)]
      have := ih (i + 1) (a ++ [x]) (by omega) (by simp; omega)
      rw [List.append_assoc] at this
      refine Ev.step (f := fun k => ir_Uses.l0 k (a ++ [x]) l (l.length : Int) ((i + 1 : Nat) : Int)) (fun k => ?_) this
      simp only [ir_Uses.l0]
      rw [if_pos (by omega), if_pos (by omega), if_pos (by omega), atn hx, if_neg h, if_pos (by omega), next_i (by omega)]
theorem reads_ev (op : Int) : Ev (fun k => ir_reads.f k op) (rdA op, rdB op) := by
  unfold ir_reads.f
  have j : ∀ a b : Bool, Ev (fun k => ir_reads.j0 k a b op (op == 3)) (rdA op, rdB op) → True := fun _ _ _ => trivial
  by_cases h3 : op = 3
  · subst h3
    refine Ev.const fun k => ?_
    simp [ir_reads.j0, rdA, rdB]
  · by_cases h6 : op = 6
    · subst h6
      refine Ev.const fun k => ?_
      simp [ir_reads.j0, rdA, rdB]
    · refine Ev.const fun k => ?_
      have e6 : (op == 6) = false := beq_eq_false_iff_ne.mpr h6
      by_cases h2 : op = 2
      · subst h2; simp [ir_reads.j0, rdA, rdB]
      by_cases h4 : op = 4
      · subst h4; simp [ir_reads.j0, rdA, rdB]
      by_cases h5 : op = 5
      · subst h5; simp [ir_reads.j0, rdA, rdB]
      by_cases h10 : op = 10
      · subst h10; simp [ir_reads.j0, rdA, rdB]
      simp [ir_reads.j0, rdA, rdB, h3, h6, h2, h4, h5, h10]
theorem irUses (x : S84) (hl : x.f9.length ≤ 100000) : Ev (fun k => ir_Uses.f k x.f0 x.f1 x.f2 x.f3 x.f4 x.f5 x.f6 x.f7 x.f8 x.f9 x.f10) (usesOf x) := by
  unfold ir_Uses.f usesOf
  refine Ev.bind (reads_ev x.f0) ?_
  dsimp only
  have j3 : ∀ a : List Int, a.length ≤ 2 → Ev (fun k => ir_Uses.j3 k a x.f0 x.f1 x.f2 x.f3 x.f4 x.f5 x.f6 x.f7 x.f8 x.f9 x.f10) (a ++ (if x.f0 = 9 then x.f9.filter (fun y => y != -1) else [])) := by
    intro a ha
    by_cases h9 : x.f0 = 9
    · rw [if_pos h9]
      have := uses_loop x.f9 hl x.f9.length 0 a (by omega) (by omega)
      refine Ev.step (f := fun k => ir_Uses.l0 k a x.f9 (x.f9.length : Int) 0) (fun k => ?_) this
      simp only [ir_Uses.j3]
      rw [if_pos h9]
    · rw [if_neg h9, List.append_nil]
      refine Ev.const fun k => ?_
      simp only [ir_Uses.j3]
      rw [if_neg h9]
  have j2 : ∀ (a : List Int) (c : Bool), a.length ≤ 1 → Ev (fun k => ir_Uses.j2 k a c x.f0 x.f1 x.f2 x.f3 x.f4 x.f5 x.f6 x.f7 x.f8 x.f9 x.f10) (a ++ (if c = true then [x.f3] else []) ++ (if x.f0 = 9 then x.f9.filter (fun y => y != -1) else [])) := by
    intro a c ha
    cases c with
    | false =>
      rw [if_neg (by simp), List.append_nil]
      refine Ev.step (fun k => ?_) (j3 a (by omega))
      simp only [ir_Uses.j2]
      rw [if_neg (by simp)]
    | true =>
      rw [if_pos rfl]
      refine Ev.step (fun k => ?_) (j3 (a ++ [x.f3]) (by simp; omega))
      simp only [ir_Uses.j2]
      rw [if_pos trivial, if_pos (by omega)]
  have j1 : ∀ (a : List Int), a.length ≤ 1 → Ev (fun k => ir_Uses.j1 k a (rdB x.f0) x.f0 x.f1 x.f2 x.f3 x.f4 x.f5 x.f6 x.f7 x.f8 x.f9 x.f10) (a ++ (if (rdB x.f0 && x.f3 != -1) = true then [x.f3] else []) ++ (if x.f0 = 9 then x.f9.filter (fun y => y != -1) else [])) := by
    intro a ha
    refine Ev.step (fun k => ?_) (j2 a (rdB x.f0 && x.f3 != -1) ha)
    simp only [ir_Uses.j1]
    cases rdB x.f0 <;> simp
  have j0 : ∀ (c : Bool), Ev (fun k => ir_Uses.j0 k [] (rdB x.f0) c x.f0 x.f1 x.f2 x.f3 x.f4 x.f5 x.f6 x.f7 x.f8 x.f9 x.f10) ((if c = true then [x.f2] else []) ++ (if (rdB x.f0 && x.f3 != -1) = true then [x.f3] else []) ++ (if x.f0 = 9 then x.f9.filter (fun y => y != -1) else [])) := by
    intro c
    cases c with
    | false =>
      rw [if_neg (by simp)]
      refine Ev.step (fun k => ?_) (j1 [] (by simp))
      simp only [ir_Uses.j0]
      rw [if_neg (by simp)]
    | true =>
      rw [if_pos rfl]
      refine Ev.step (fun k => ?_) (j1 [x.f2] (by simp))
      simp only [ir_Uses.j0]
      rw [if_pos trivial, if_pos (by simp)]; rfl
  have := j0 (rdA x.f0 && x.f2 != -1)
  refine Ev.congr (fun k => ?_) this
  cases rdA x.f0 <;> simp
/-! the reference's -/
def fieldsOf (op : Int) : List Bool := (rushlightref13_fields.f op).getD []
theorem fields_none {op : Int} (h : op < 1 ∨ 12 < op) : rushlightref13_fields.f op = some [] := by
  unfold rushlightref13_fields.f
  simp only [Option.bind_some]
  by_cases h1 : op < 1
  · rw [if_pos h1]
  · rw [if_neg h1, if_pos (by omega)]
theorem fields_cases (op : Int) : (op < 1 ∨ 12 < op) ∨ op = 1 ∨ op = 2 ∨ op = 3 ∨ op = 4 ∨ op = 5 ∨ op = 6 ∨ op = 7 ∨ op = 8 ∨ op = 9 ∨ op = 10 ∨ op = 11 ∨ op = 12 := by omega
/-- what the table says of an operation -/
theorem fields_some (op : Int) : ∃ t, rushlightref13_fields.f op = some t ∧ (t = [] ∨ t.length = 10) ∧ (t.length > 0 → rdOf false t 1 = rdA op ∧ rdOf false t 2 = rdB op ∧ rdOf false t 8 = (op == 9) ∧ (rdOf false t 0 = true ↔ op = 1 ∨ op = 2 ∨ op = 3 ∨ op = 4 ∨ op = 5 ∨ op = 7 ∨ op = 8 ∨ op = 9 ∨ op = 11)) ∧ (t = [] → rdA op = false ∧ rdB op = false ∧ op ≠ 9 ∧ ¬ (op = 1 ∨ op = 2 ∨ op = 3 ∨ op = 4 ∨ op = 5 ∨ op = 7 ∨ op = 8 ∨ op = 9 ∨ op = 11)) := by
  rcases fields_cases op with h | h | h | h | h | h | h | h | h | h | h | h | h
  · refine ⟨[], fields_none h, .inl rfl, fun e => by simp at e, fun _ => ⟨?_, ?_, by omega, by omega⟩⟩
    · unfold rdA; simp only [Bool.or_eq_false_iff, beq_eq_false_iff_ne]; omega
    · unfold rdB; simp only [Bool.or_eq_false_iff, beq_eq_false_iff_ne]; omega
  all_goals
    subst h
    refine ⟨_, rfl, .inr (by decide), fun _ => by decide, fun e => by revert e; decide⟩
theorem refDef (x : S84) : rushlightref13_Def.f x.f0 x.f1 x.f2 x.f3 x.f4 x.f5 x.f6 x.f7 x.f8 x.f9 x.f10 = some (defOf x) := by
  obtain ⟨t, ht, hl, h1, h0⟩ := fields_some x.f0
  unfold rushlightref13_Def.f
  rw [ht, Option.bind_some]
  unfold defOf
  rcases hl with e | e
  · rw [if_pos (by rw [e]; rfl), if_neg (h0 e).2.2.2]
  · rw [if_neg (by omega), if_pos (by omega)]
    by_cases hd : rdOf false t 0 = true
    · rw [if_pos hd, if_pos ((h1 (by omega)).2.2.2.1 hd)]
    · rw [if_neg hd, if_neg (fun h => hd ((h1 (by omega)).2.2.2.2 h))]
theorem has_ev (l : List Int) (v : Int) (hl : l.length ≤ 1000000) : Ev (fun k => rushlightref16_has.f k l v) (decide (v ∈ l)) := by
  have loop : ∀ (d i : Nat), i + d = l.length → Ev (fun k => rushlightref16_has.l0 k l v (i : Int)) (decide (v ∈ l.drop i)) := by
    intro d
    induction d with
    | zero =>
      intro i hi
      have e : l.drop i = [] := List.drop_of_length_le (by omega)
      rw [e]
      refine Ev.const fun k => ?_
      simp only [rushlightref16_has.l0]
      rw [if_neg (by omega)]; simp
    | succ d ih =>
      intro i hi
      obtain ⟨x, hx, e⟩ := drop_at (l := l) (i := i) (by omega)
      rw [e]
      by_cases h : x = v
      · refine Ev.const fun k => ?_
        simp only [rushlightref16_has.l0]
        rw [if_pos (by omega), if_pos (by omega), atn hx, if_pos h]; simp [h]
      · have e2 : decide (v ∈ x :: l.drop (i + 1)) = decide (v ∈ l.drop (i + 1)) := by
          apply decide_eq_decide.2
          rw [List.mem_cons]
          constructor
          · rintro (h' | h'); exact absurd h'.symm h; exact h'
          · exact .inr
        rw [e2]
        refine Ev.step (f := fun k => rushlightref16_has.l0 k l v ((i + 1 : Nat) : Int)) (fun k => ?_) (ih (i + 1) (by omega))
        simp only [rushlightref16_has.l0]
        rw [if_pos (by omega), if_pos (by omega), atn hx, if_neg h, next_i (by omega)]
  exact loop l.length 0 (by omega)
end Go.Proofs.Ytppanpboejpmjaa.Mf
