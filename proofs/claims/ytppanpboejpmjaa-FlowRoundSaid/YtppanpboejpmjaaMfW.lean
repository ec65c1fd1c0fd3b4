/- Where blocks lead; no program in sight. -/
import Derived.Test.YtppanpboejpmjaaFlowC
import Derived.Test.YtppanpboejpmjaaTr4
set_option linter.all false
namespace Go.Proofs.Ytppanpboejpmjaa.Mf
open Go Go.RowKit Go.Proofs.Ytppanpboejpmjaa.Tr Go.Proofs.YtppanpboejpmjaaW.PrintWords Go.Proofs.YtppanpboejpmjaaW.PrintLast

theorem w64 {a : Int} (h0 : -9223372036854775808 ≤ a) (h1 : a ≤ 9223372036854775807) : wrap64 a = a := by
  unfold wrap64; omega
theorem next_i {i : Nat} (h : i ≤ 1000000000) : wrap64 ((i : Int) + 1) = ((i + 1 : Nat) : Int) := by
  rw [w64 (by omega) (by omega)]; rfl
theorem atn {l : List Int} {i : Nat} {x : Int} (h : l[i]? = some x) : rd l (i : Int) = x := by
  unfold rd; rw [Int.toNat_natCast, List.getD_eq_getElem?_getD, h]; rfl
theorem atb {l : List Bool} {i : Nat} {x : Bool} (h : l[i]? = some x) : rdOf false l (i : Int) = x := by
  unfold rdOf; rw [Int.toNat_natCast, List.getD_eq_getElem?_getD, h]; rfl
theorem at84 {l : List S84} {i : Nat} {x : S84} (h : l[i]? = some x) : rd_T84 l (i : Int) = x := by
  unfold rd_T84; rw [Int.toNat_natCast, List.getD_eq_getElem?_getD, h]; rfl
theorem at45 {l : List S45} {i : Nat} {x : S45} (h : l[i]? = some x) : rd_T45 l (i : Int) = x := by
  unfold rd_T45; rw [Int.toNat_natCast, List.getD_eq_getElem?_getD, h]; rfl
theorem drop_at {α : Type} {l : List α} {i : Nat} (h : i < l.length) : ∃ x, l[i]? = some x ∧ l.drop i = x :: l.drop (i + 1) :=
  ⟨l[i], List.getElem?_eq_getElem h, List.drop_eq_getElem_cons h⟩
theorem Ev.const {α : Type} {g : Nat → Option α} {r : α} (h : ∀ k, g (k + 1) = some r) : Ev g r := Ev.step h (Ev.now r)

def okB (b : S45) : Prop := b.f0.length ≤ 60 ∧ ∀ x ∈ b.f0, x.f9.length ≤ 12
theorem getD_set_self {α : Type} {l : List α} {n : Nat} {x d : α} (h : n < l.length) : (l.set n x).getD n d = x := by
  rw [List.getD_eq_getElem?_getD, List.getElem?_set_self h]; rfl
theorem getD_set_ne {α : Type} {l : List α} {n i : Nat} {x d : α} (h : n ≠ i) : (l.set n x).getD i d = l.getD i d := by
  rw [List.getD_eq_getElem?_getD, List.getElem?_set_ne h, List.getD_eq_getElem?_getD]
/-! #### where a block leads -/
def baseOuts (b : S45) : List Int := if b.f1 = 1 then [b.f3] else if b.f1 = 2 then (if b.f3 = b.f4 then [b.f3] else [b.f3, b.f4]) else []
def outsOf (l : List S45) (n : Nat) : List Int := (baseOuts (l.getD n z45)).filter (fun x => !flow_not l.length x)
theorem baseOuts_len (b : S45) : (baseOuts b).length ≤ 2 := by
  unfold baseOuts
  split
  · simp
  · split
    · split <;> simp
    · simp
theorem outs_len (l : List S45) (n : Nat) : (outsOf l n).length ≤ 2 := Nat.le_trans (List.length_filter_le _ _) (baseOuts_len _)
theorem outs_mem {l : List S45} {n : Nat} {x : Int} (h : x ∈ outsOf l n) : 0 ≤ x ∧ x < (l.length : Int) := by
  have := (List.mem_filter.1 h).2
  simp only [flow_not, Bool.not_or, Bool.and_eq_true, Bool.not_eq_true', decide_eq_false_iff_not] at this
  omega
theorem irOuts (b : S45) : Ev (fun k => ir_Outs.f k b.f0 b.f1 b.f2 b.f3 b.f4) (baseOuts b) := by
  unfold ir_Outs.f baseOuts
  by_cases h1 : b.f1 = 1
  · simp only [if_pos h1]
    refine Ev.const fun k => ?_
    simp [ir_Outs.j0]
  · simp only [if_neg h1]
    by_cases h2 : b.f1 = 2
    · simp only [if_pos h2]
      refine Ev.const fun k => ?_
      by_cases h : b.f3 = b.f4 <;> simp [ir_Outs.j0, h, h2]
    · simp only [if_neg h2]
      refine Ev.const fun k => ?_
      simp [ir_Outs.j0, h2]
theorem flowOuts (a0 : ByteArray) (a1 : Bool) (a2 a3 : Int) (l4 : List S76) (l5 : List S45) (n : Nat) (hn : n < l5.length) : Ev (fun k => flow_outs.f k a0 a1 a2 a3 l4 l5 (n : Int)) (outsOf l5 n) := by
  unfold flow_outs.f
  simp only [if_pos (show (0 : Int) ≤ (n : Int) by omega), if_pos (show (n : Int) < (l5.length : Int) by omega)]
  have e : rd_T45 l5 (n : Int) = l5.getD n z45 := by simp [rd_T45]
  rw [e]
  exact Ev.bind (irOuts (l5.getD n z45)) (Ev.now _)
theorem refOuts (a0 : ByteArray) (a1 : Bool) (a2 a3 : Int) (l4 : List S76) (l5 : List S45) (n : Nat) (hn : n < l5.length) : Ev (fun k => rushlightref16_Outs.f k a0 a1 a2 a3 l4 l5 (n : Int)) (outsOf l5 n) := by
  unfold rushlightref16_Outs.f
  simp only [if_pos (show (0 : Int) ≤ (n : Int) by omega), if_pos (show (n : Int) < (l5.length : Int) by omega)]
  have e : rd_T45 l5 (n : Int) = l5.getD n z45 := by simp [rd_T45]
  rw [e]
  have hb : Ev (fun k => rushlightref13_Outs.f k (l5.getD n z45).f0 (l5.getD n z45).f1 (l5.getD n z45).f2 (l5.getD n z45).f3 (l5.getD n z45).f4) (baseOuts (l5.getD n z45)) := by
    generalize l5.getD n z45 = b
    unfold rushlightref13_Outs.f baseOuts
    by_cases h1 : b.f1 = 1
    · simp only [if_pos h1]
      refine Ev.const fun k => ?_
      simp [rushlightref13_Outs.j0, h1]
    · simp only [if_neg h1]
      by_cases h2 : b.f1 = 2
      · simp only [if_pos h2]
        refine Ev.const fun k => ?_
        by_cases h : b.f3 = b.f4
        · simp [rushlightref13_Outs.j0, h, h2]
        · simp [rushlightref13_Outs.j0, h, h2, Ne.symm h]
      · simp only [if_neg h2]
        refine Ev.const fun k => ?_
        simp [rushlightref13_Outs.j0, h2]
  refine Ev.bind hb ?_
  unfold outsOf
  have hl := baseOuts_len (l5.getD n z45)
  generalize baseOuts (l5.getD n z45) = t at hl
  have loop : ∀ (d i : Nat) (a : List Int), i + d = t.length → a.length ≤ i → Ev (fun k => rushlightref16_Outs.l0 k a t (i : Int) a0 a1 a2 a3 l4 l5) (a ++ (t.drop i).filter (fun x => !flow_not l5.length x)) := by
    intro d
    induction d with
    | zero =>
      intro i a hi ha
      have e : t.drop i = [] := List.drop_of_length_le (by omega)
      rw [e, List.filter_nil, List.append_nil]
      refine Ev.const fun k => ?_
      simp only [rushlightref16_Outs.l0]
      rw [if_neg (by omega)]
    | succ d ih =>
      intro i a hi ha
      obtain ⟨x, hx, e⟩ := drop_at (l := t) (i := i) (by omega)
      rw [e]
      by_cases h0 : 0 ≤ x
      · by_cases h1 : x < (l5.length : Int)
        · rw [List.filter_cons_of_pos (by simp [flow_not]; omega)]
          have := ih (i + 1) (a ++ [x]) (by omega) (by simp; omega)
          rw [List.append_assoc] at this
          refine Ev.step (fun k => ?_) this
          simp only [rushlightref16_Outs.l0]
          rw [if_pos (by omega), if_pos (by omega), atn hx, if_pos h0, if_pos h1, if_pos (by omega), next_i (by omega)]
        · rw [List.filter_cons_of_neg (by simp [flow_not]; omega)]
          refine Ev.step (fun k => ?_) (ih (i + 1) a (by omega) (by omega))
          simp only [rushlightref16_Outs.l0]
          rw [if_pos (by omega), if_pos (by omega), atn hx, if_pos h0, if_neg h1, next_i (by omega)]
      · rw [List.filter_cons_of_neg (by simp [flow_not]; omega)]
        refine Ev.step (fun k => ?_) (ih (i + 1) a (by omega) (by omega))
        simp only [rushlightref16_Outs.l0]
        rw [if_pos (by omega), if_pos (by omega), atn hx, if_neg h0, next_i (by omega)]
  exact loop t.length 0 [] (by omega) (by simp)
end Go.Proofs.Ytppanpboejpmjaa.Mf
