/- What the compiler's order, back edges and reach come to; no program in sight. -/
import Derived.Test.YtppanpboejpmjaaMfJ
import Derived.Test.YtppanpboejpmjaaFlowH
set_option linter.all false
namespace Go.Proofs.Ytppanpboejpmjaa.Mf
open Go Go.RowKit Go.Proofs.Ytppanpboejpmjaa.Tr Go.Proofs.YtppanpboejpmjaaW.PrintWords Go.Proofs.YtppanpboejpmjaaW.PrintLast

theorem Ev.upto {α : Type} {f : Nat → Nat → Option α} {g : Nat → α} : ∀ n : Nat, (∀ i, i < n → Ev (f i) (g i)) → ∃ K, ∀ i, i < n → ∀ k, K ≤ k → f i k = some (g i)
  | 0, _ => ⟨0, fun i hi => by omega⟩
  | n + 1, h => by
    obtain ⟨K, hK⟩ := Ev.upto n (fun i hi => h i (by omega))
    obtain ⟨K2, hK2⟩ := h n (by omega)
    refine ⟨max K K2, fun i hi k hk => ?_⟩
    by_cases e : i < n
    · exact hK i e k (by omega)
    · obtain rfl : i = n := by omega
      exact hK2 k (by omega)
theorem zi_mem (l : List Nat) (i : Nat) : (i : Int) ∈ zi l ↔ i ∈ l := by
  unfold zi
  rw [List.mem_map]
  constructor
  · rintro ⟨x, hx, e⟩; rw [show i = x by omega]; exact hx
  · intro h; exact ⟨i, h, rfl⟩
theorem getD_at {α : Type} {l : List α} {m : Nat} {d : α} (h : m < l.length) : l[m]? = some (l.getD m d) := by
  rw [List.getD_eq_getElem?_getD, List.getElem?_eq_getElem h]; rfl
theorem marks_get (o : List Int) (n : Nat) : (∀ x ∈ o, 0 ≤ x ∧ x < (n : Int)) → ∀ i, (flow_marks o n).getD i false = true ↔ (i : Int) ∈ o := by
  have gen : ∀ (o : List Int) (b : List Bool), (∀ x ∈ o, 0 ≤ x ∧ x < (b.length : Int)) → ∀ i, (o.foldl (fun b x => b.set x.toNat true) b).getD i false = true ↔ (i : Int) ∈ o ∨ b.getD i false = true := by
    intro o
    induction o with
    | nil => intro b _ i; simp
    | cons x o ih =>
      intro b hb i
      have hx := hb x (List.mem_cons_self ..)
      rw [List.foldl_cons, ih _ (fun y hy => by rw [List.length_set]; exact hb y (List.mem_cons_of_mem _ hy)) i, List.mem_cons]
      by_cases e : x.toNat = i
      · subst e
        rw [getD_set_self (by omega)]
        have : ((x.toNat : Nat) : Int) = x := by omega
        simp [this]
      · rw [getD_set_ne e]
        have : ¬ (i : Int) = x := by omega
        simp [this]
  intro h i
  unfold flow_marks
  rw [gen o _ (by simpa using h) i]
  have : (List.replicate n false).getD i false = false := by
    rw [List.getD_eq_getElem?_getD, List.getElem?_replicate]; split <;> rfl
  rw [this]; simp
/-- the compiler's order, back edges and reach -/
theorem flows (a0 : ByteArray) (a1 : Bool) (a2 a3 : Int) (l4 : List S76) (l : List S45) (hl : l.length ≤ 40) : ∃ (st left : List Nat) (bk : List (Nat × Nat)), Tour l left bk ∧ left.length ≤ 1000 ∧ Ev (fun k => flow_Order.f k a0 a1 a2 a3 l4 l) (zi left.reverse) ∧ Ev (fun k => flow_Back.f k a0 a1 a2 a3 l4 l) (zp bk) ∧ Ev (fun k => flow_Reach.f k a0 a1 a2 a3 l4 l) (flow_marks (zi left.reverse) l.length) ∧ Ev (fun k => ref_Walked.f k a0 a1 a2 a3 l4 l) (zi st, zi left, zp bk) := by
  obtain ⟨st, left, bk, T, h1, h2⟩ := tour a0 a1 a2 a3 l4 l hl
  have hlen : left.length ≤ 1000 := T.llen
  refine ⟨st, left, bk, T, hlen, ?_, ?_, ?_, h2⟩
  · unfold flow_Order.f
    simp only [if_pos (show l.length ≤ 4000000000000 by omega)]
    exact Ev.bind h1 (Ev.now _)
  · unfold flow_Back.f
    simp only [if_pos (show l.length ≤ 4000000000000 by omega)]
    exact Ev.bind h1 (Ev.now _)
  · unfold flow_Reach.f
    simp only [if_pos (show l.length ≤ 4000000000000 by omega)]
    refine Ev.bind h1 ?_
    have hc : (∀ n, n ∈ zi left.reverse → 0 ≤ n ∧ n < (l.length : Int)) ∧ (zi left.reverse).length ≤ 4000000000000 := ⟨fun x hx => by
      unfold zi at hx
      obtain ⟨y, hy, e⟩ := List.mem_map.1 hx
      have := T.lt y (List.mem_reverse.1 hy); omega, by rw [zi_len]; simp; omega⟩
    dsimp only
    rw [show (fun k : Nat => if (∀ n, n ∈ zi left.reverse → 0 ≤ n ∧ n < (l.length : Int)) ∧ (zi left.reverse).length ≤ 4000000000000 then some (flow_marks (zi left.reverse) l.length) else none) = fun _ => some (flow_marks (zi left.reverse) l.length) from funext fun k => if_pos hc]
    exact Ev.now _
end Go.Proofs.Ytppanpboejpmjaa.Mf
