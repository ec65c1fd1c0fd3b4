/- The walk through a procedure: order, back edges, reach; no program in sight. -/
import Derived.Test.YtppanpboejpmjaaMfI
set_option linter.all false
namespace Go.Proofs.Ytppanpboejpmjaa.Mf
open Go Go.RowKit Go.Proofs.Ytppanpboejpmjaa.Tr Go.Proofs.YtppanpboejpmjaaW.PrintWords Go.Proofs.YtppanpboejpmjaaW.PrintLast

/-- Words: a block is reached -/
inductive Path (l : List S45) : Nat → Prop
  | zero (h : 0 < l.length) : Path l 0
  | step {a b : Nat} (h : Path l a) (hb : b ∈ succ l a) : Path l b
/-- what is known of a walk: the blocks in the order in which they are left, the ends that lead back -/
structure Tour (l : List S45) (left : List Nat) (bk : List (Nat × Nat)) : Prop where
  nd : left.Nodup
  lt : ∀ i ∈ left, i < l.length
  path : ∀ i, i ∈ left ↔ Path l i
  last : 0 < l.length → ∃ nl, left = nl ++ [0]
  edge : ∀ p a q, left = p ++ a :: q → ∀ t ∈ succ l a, t ∈ left ∧ ((a, t) ∈ bk ↔ t ∉ p)
  lbk : bk.length ≤ 1000
  llen : left.length ≤ 1000
theorem tour (a0 : ByteArray) (a1 : Bool) (a2 a3 : Int) (l4 : List S76) (l : List S45) (hl : l.length ≤ 40) : ∃ (st left : List Nat) (bk : List (Nat × Nat)), Tour l left bk ∧ Ev (fun k => flow_walked.f k a0 a1 a2 a3 l4 l) (zi st, zi left.reverse, zp bk) ∧ Ev (fun k => ref_Walked.f k a0 a1 a2 a3 l4 l) (zi st, zi left, zp bk) := by
  by_cases h0 : l.length = 0
  · refine ⟨[], [], [], ⟨List.nodup_nil, fun i h => by simp at h, fun i => ⟨fun h => by simp at h, fun h => ?_⟩, fun h => by omega, fun p a q h => by simp at h, by simp, by simp⟩, ?_, ?_⟩
    · have : ∀ i, Path l i → False := by
        intro i hi
        induction hi with
        | zero h => omega
        | step h hb ih => exact ih
      exact (this i h).elim
    · unfold flow_walked.f
      simp only [if_pos h0, Option.bind_some]
      refine Ev.bind (reverse_ev [] (by simp)) ?_
      rw [h0]; exact Ev.now _
    · unfold ref_Walked.f
      simp only [if_pos h0]
      rw [h0]; exact Ev.now _
  · have hN : 0 < l.length := by omega
    have hr0 : (List.replicate l.length 0).length = l.length := List.length_replicate
    have hz : ∀ i, (List.replicate l.length 0).getD i 0 = 0 := by
      intro i
      rw [List.getD_eq_getElem?_getD, List.getElem?_replicate]
      split <;> rfl
    have g1 : ∀ i, ((List.replicate l.length 0).set 0 1).getD i 0 = if i = 0 then 1 else 0 := fun i => by rw [getD_set (by rw [hr0]; exact hN), hz]
    have hB : Before l 0 (succ l 0) ((List.replicate l.length 0).set 0 1, [], []) := ⟨by simp, fun t ht => succ_lt ht, by rw [g1]; rfl, fun i => by rw [g1]; split <;> omega, fun i => by rw [g1]; simp; split <;> omega, fun a b h => by simp at h⟩
    obtain ⟨⟨st, left, bk⟩, hL, hW⟩ := loop_all l _ _ 0 (succ l 0) _ (Nat.le_refl _) (Nat.le_refl _) hB
    have hsl := succ_len l 0
    have hcnt : ((List.replicate l.length 0).set 0 1).count 0 ≤ 40 := Nat.le_trans (List.count_le_length) (by simp; exact hl)
    obtain ⟨z1, z2, z3, z4⟩ := loop_size hL (by simp) (fun t ht => succ_lt ht)
    simp at z1 z2 z3 z4 hcnt
    obtain ⟨nl, e1, e2, e3, e4, e5⟩ := hW.left
    obtain ⟨nb, f1, f2, f3⟩ := hW.bk
    dsimp only at e1 e3 e4 f1 f2 f3
    rw [List.nil_append] at e1 f1
    subst e1; subst f1
    have one : ∀ i, st.getD i 0 = 1 ↔ i = 0 := fun i => by rw [show st.getD i 0 = 1 ↔ _ from hW.one i, g1]; split <;> simp_all
    have val : ∀ i, st.getD i 0 ≤ 2 := hW.val
    have memL : ∀ i, i ∈ left ↔ i ≠ 0 ∧ st.getD i 0 = 2 := fun i => by rw [e3 i, g1]; split <;> simp_all
    have seen : ∀ t, st.getD t 0 ≠ 0 → t ∈ left ++ [0] := by
      intro t ht
      rw [List.mem_append, List.mem_singleton, memL]
      by_cases e : t = 0
      · exact .inr e
      · have := val t
        have : ¬ st.getD t 0 = 1 := fun h => e ((one t).1 h)
        exact .inl ⟨e, by omega⟩
    have hedge : ∀ p a q, left ++ [0] = p ++ a :: q → ∀ t ∈ succ l a, t ∈ left ++ [0] ∧ ((a, t) ∈ bk ↔ t ∉ p) := by
      intro p a q h t ht
      rcases split_three (t := 0) (nl2 := []) h with ⟨q', e⟩ | ⟨rfl, rfl⟩ | ⟨p', _, e⟩
      · obtain ⟨h1, h2⟩ := e4 p a q' e t ht
        exact ⟨seen t h1, by rw [h2, List.nil_append]⟩
      · have h1 : st.getD t 0 ≠ 0 := hW.nz t ht
        refine ⟨seen t h1, ?_⟩
        rw [f3 t, memL t, g1]
        constructor
        · rintro ⟨_, h⟩ h'
          rw [if_neg h'.1] at h; omega
        · intro h
          refine ⟨ht, ?_⟩
          by_cases e : t = 0
          · rw [if_pos e]
          · exact absurd ⟨e, by have := val t; have : ¬ st.getD t 0 = 1 := fun h => e ((one t).1 h); omega⟩ h
      · simp at e
    have hpath : ∀ i, i ∈ left ++ [0] ↔ Path l i := by
      intro i
      constructor
      · intro h
        rcases List.mem_append.1 h with h | h
        · exact e5 (Path l) (.zero hN) (fun a b ha hb => .step ha hb) (fun t ht => .step (.zero hN) ht) i h
        · have : i = 0 := by simpa using h
          subst this; exact .zero hN
      · intro h
        induction h with
        | zero h => simp
        | @step a b h hb ih =>
          obtain ⟨p, q, e⟩ := List.append_of_mem ih
          exact (hedge p a q e b hb).1
    refine ⟨st.set 0 2, left ++ [0], bk, ⟨?_, ?_, hpath, fun _ => ⟨left, rfl⟩, hedge, by omega, by simp; omega⟩, ?_, ?_⟩
    · rw [List.nodup_append]
      exact ⟨e2, by simp, fun a ha b hb e => by
        have : b = 0 := by simpa using hb
        subst e; exact ((memL a).1 ha).1 this⟩
    · intro i hi
      rcases List.mem_append.1 hi with h | h
      · have := (memL i).1 h
        have := getD_pos_lt (st := st) (i := i) (by omega)
        omega
      · have : i = 0 := by simpa using h
        omega
    · obtain ⟨K1, c, hK1⟩ := flow_loop a0 a1 a2 a3 l4 hL (by simp) (fun t ht => succ_lt ht) (by simp; omega) (by simp; omega)
      obtain ⟨K2, hK2⟩ := flowOuts a0 a1 a2 a3 l4 l 0 hN
      dsimp only at hK1 hK2
      unfold flow_walked.f
      simp only [if_neg h0]
      have hz2 : List.replicate l.length (0 : Int) = zi (List.replicate l.length 0) := by unfold zi; simp
      have hev : Ev (fun k => flow_into.f k a0 a1 a2 a3 l4 l (List.replicate l.length 0) [] [] 0) (zi (st.set 0 2), zi (left ++ [0]), zp bk) := by
        refine ⟨K1 + K2 + c + 3, fun k hk => ?_⟩
        dsimp only
        unfold flow_into.f
        rw [if_pos ⟨Int.le_refl _, by simp; exact hN⟩, show (0 : Int) = ((0 : Nat) : Int) from rfl, hK2 k (by omega), Option.bind_some, ← zi_succ]
        obtain ⟨j, rfl⟩ : ∃ j, k = j + 2 + c := ⟨k - 2 - c, by omega⟩
        rw [show ((0 : Nat) : Int) = 0 from rfl, hz2]
        have := hK1 (j + 2) [] (by omega) (by simp; omega)
        rw [show (zi (List.replicate l.length 0)).set (0 : Int).toNat 1 = zi ((List.replicate l.length 0).set 0 1) from zi_set _ 0 1]
        rw [show zi ([] : List Nat) = [] from rfl, show zp ([] : List (Nat × Nat)) = [] from rfl] at this
        refine this.trans ?_
        rw [flow_into.l, if_pos ⟨by omega, by rw [zi_len]; omega, by rw [zi_len]; omega⟩, flow_into.l, zi_app]
        rw [show (zi st).set (((0 : Nat) : Int)).toNat 2 = zi (st.set 0 2) from zi_set st 0 2]; rfl
      refine Ev.bind hev ?_
      dsimp only
      refine Ev.bind (f := fun k o => some (zi (st.set 0 2), o, zp bk)) (reverse_ev (zi (left ++ [0])) (by rw [zi_len]; simp; omega)) ?_
      rw [show (zi (left ++ [0])).reverse = zi (left ++ [0]).reverse from by unfold zi; rw [List.map_reverse]]
      exact Ev.now _
    · obtain ⟨K1, hK1⟩ := ref_loop a0 a1 a2 a3 l4 hL (by simp) (fun t ht => succ_lt ht) (by simp; omega) (by simp; omega)
      obtain ⟨K2, hK2⟩ := refOuts a0 a1 a2 a3 l4 l 0 hN
      dsimp only at hK1 hK2
      unfold ref_Walked.f
      simp only [if_neg h0]
      have hz2 : List.replicate l.length (0 : Int) = zi (List.replicate l.length 0) := by unfold zi; simp
      refine ⟨K1 + K2 + 1, fun k hk => ?_⟩
      obtain ⟨k, rfl⟩ : ∃ j, k = j + 1 := ⟨k - 1, by omega⟩
      dsimp only
      rw [ref_into.f, if_pos ⟨Int.le_refl _, by simp; exact hN⟩, show (0 : Int) = ((0 : Nat) : Int) from rfl, hK2 k (by omega), Option.bind_some, ← zi_succ]
      rw [show ((0 : Nat) : Int) = 0 from rfl, hz2]
      have := hK1 k (by omega)
      rw [show (zi (List.replicate l.length 0)).set (0 : Int).toNat 1 = zi ((List.replicate l.length 0).set 0 1) from zi_set _ 0 1]
      rw [show zi ([] : List Nat) = [] from rfl, show zp ([] : List (Nat × Nat)) = [] from rfl, show ((0 : Nat) : Int) = 0 from rfl] at this
      rw [this, Option.bind_some, if_pos ⟨by rw [zi_len]; omega, by rw [zi_len]; omega⟩, zi_app, show (zi st).set (0 : Int).toNat 2 = zi (st.set 0 2) from zi_set st 0 2]; rfl
end Go.Proofs.Ytppanpboejpmjaa.Mf
