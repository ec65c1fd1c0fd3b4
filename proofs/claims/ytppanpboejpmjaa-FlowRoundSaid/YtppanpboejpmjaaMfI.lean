/- The compiler's walk with a stack and the reference's by recursion come to the same; no program in sight. -/
import Derived.Test.YtppanpboejpmjaaMfH
import Derived.Test.YtppanpboejpmjaaFlowG
import Derived.Test.YtppanpboejpmjaaFlowV
set_option linter.all false
namespace Go.Proofs.Ytppanpboejpmjaa.Mf
open Go Go.RowKit Go.Proofs.Ytppanpboejpmjaa.Tr Go.Proofs.YtppanpboejpmjaaW.PrintWords Go.Proofs.YtppanpboejpmjaaW.PrintLast

def zi (l : List Nat) : List Int := l.map (fun x : Nat => (x : Int))
def zp (l : List (Nat × Nat)) : List (Int × Int) := l.map (fun x : Nat × Nat => ((x.1 : Int), (x.2 : Int)))
theorem zi_len (l : List Nat) : (zi l).length = l.length := by unfold zi; simp
theorem zp_len (l : List (Nat × Nat)) : (zp l).length = l.length := by unfold zp; simp
theorem zi_rd (l : List Nat) (i : Nat) : rd (zi l) (i : Int) = (l.getD i 0 : Nat) := by
  unfold rd zi
  rw [Int.toNat_natCast, List.getD_eq_getElem?_getD, List.getElem?_map, List.getD_eq_getElem?_getD]
  cases l[i]? <;> rfl
theorem zi_set (l : List Nat) (i v : Nat) : (zi l).set i (v : Int) = zi (l.set i v) := by unfold zi; rw [List.map_set]
theorem zi_app (a b : List Nat) : zi (a ++ b) = zi a ++ zi b := List.map_append
theorem zp_app (a b : List (Nat × Nat)) : zp (a ++ b) = zp a ++ zp b := List.map_append
theorem zi_succ (l : List S45) (n : Nat) : zi (succ l n) = outsOf l n := by
  unfold zi succ
  rw [List.map_map]
  have : ∀ o : List Int, (∀ x ∈ o, 0 ≤ x) → o.map ((fun x : Nat => (x : Int)) ∘ Int.toNat) = o := by
    intro o
    induction o with
    | nil => intro _; rfl
    | cons x o ih =>
      intro h
      rw [List.map_cons, ih (fun y hy => h y (List.mem_cons_of_mem _ hy))]
      have := h x (List.mem_cons_self ..)
      show (x.toNat : Int) :: o = x :: o
      rw [Int.toNat_of_nonneg this]
  exact this _ (fun x hx => (outs_mem hx).1)
theorem succ_len (l : List S45) (n : Nat) : (succ l n).length ≤ 2 := by unfold succ; rw [List.length_map]; exact outs_len l n
/-- what a walk may grow -/
theorem loop_size {l : List S45} {n : Nat} {o : List Nat} {s s' : W3} (h : Loop l n o s s') (hl : s.1.length = l.length) (ho : ∀ t ∈ o, t < l.length) : s'.1.length = l.length ∧ s'.2.2.length + 2 * s'.1.count 0 ≤ s.2.2.length + o.length + 2 * s.1.count 0 ∧ s'.2.1.length + s'.1.count 0 ≤ s.2.1.length + s.1.count 0 ∧ s'.1.count 0 ≤ s.1.count 0 := by
  induction h with
  | nil => exact ⟨hl, by simp, Nat.le_refl _, Nat.le_refl _⟩
  | back h k ih =>
    obtain ⟨h1, h2, h3, h4⟩ := ih hl (fun x hx => ho x (List.mem_cons_of_mem _ hx))
    simp at h2 h3 h4 ⊢
    exact ⟨h1, by omega, h3, h4⟩
  | @into n t o st left st1 left1 bk bk1 s h i k ih1 ih2 =>
    have ht := ho t (List.mem_cons_self ..)
    have hts : t < st.length := by simp at hl; omega
    have hc := count_set0 hts h (v := 1) (by omega)
    obtain ⟨a1, a2, a3, a4⟩ := ih1 (by simpa using hl) (fun x hx => succ_lt hx)
    simp at a1 a2 a3 a4
    have hsl := succ_len l t
    have hc2 : (st1.set t 2).count 0 ≤ st1.count 0 := by
      by_cases e : st1.getD t 0 = 0
      · have := count_set0 (show t < st1.length by omega) e (v := 2) (by omega); omega
      · have := count_set1 (show t < st1.length by omega) e (v := 2) (by omega); omega
    obtain ⟨b1, b2, b3, b4⟩ := ih2 (by simpa using a1) (fun x hx => ho x (List.mem_cons_of_mem _ hx))
    simp at b2 b3 b4 ⊢
    refine ⟨b1, by omega, by omega, by omega⟩
  | skip h k ih =>
    obtain ⟨h1, h2, h3, h4⟩ := ih hl (fun x hx => ho x (List.mem_cons_of_mem _ hx))
    simp at h2 h3 h4 ⊢
    exact ⟨h1, by omega, h3, h4⟩
variable (a0 : ByteArray) (a1 : Bool) (a2 a3 : Int) (l4 : List S76)
/-- THE REFERENCE'S, BY RECURSION -/
theorem ref_loop {l : List S45} {n : Nat} {o : List Nat} {s s' : W3} (h : Loop l n o s s') (hl : s.1.length = l.length) (ho : ∀ t ∈ o, t < l.length) (hs : s.2.2.length + o.length + 2 * s.1.count 0 ≤ 1000) (hs2 : s.2.1.length + s.1.count 0 ≤ 1000) :
    ∃ K, ∀ k, K ≤ k → ref_into.l (ref_into.f a0 a1 a2 a3 l4 l k) (n : Int) (zi o) (zi s.1) (zi s.2.1) (zp s.2.2) = some (zi s'.1, zi s'.2.1, zp s'.2.2) := by
  induction h with
  | nil => exact ⟨0, fun k _ => rfl⟩
  | @back n t o st left bk s h k ih =>
    have ht := ho t (List.mem_cons_self ..)
    simp at hl hs hs2
    obtain ⟨K, hK⟩ := ih hl (fun x hx => ho x (List.mem_cons_of_mem _ hx)) (by simp; omega) (by simp; omega)
    refine ⟨K, fun k hk => ?_⟩
    have := hK k hk
    dsimp only at this ⊢
    show ref_into.l _ _ ((t : Int) :: zi o) _ _ _ = _
    rw [ref_into.l, if_pos ⟨by omega, by rw [zi_len]; omega⟩, zi_rd, h, if_pos (show ((1 : Nat) : Int) = 1 from rfl), if_pos (by rw [zp_len]; omega)]
    rw [zp_app] at this
    exact this
  | @into n t o st left st1 left1 bk bk1 s h i k ih1 ih2 =>
    have ht := ho t (List.mem_cons_self ..)
    simp at hl hs hs2
    have hts : t < st.length := by omega
    have hc := count_set0 hts h (v := 1) (by omega)
    have hsl := succ_len l t
    obtain ⟨a1', a2', a3', a4'⟩ := loop_size i (by simpa using hl) (fun x hx => succ_lt hx)
    simp at a1' a2' a3' a4'
    have hc2 : (st1.set t 2).count 0 ≤ st1.count 0 := by
      by_cases e : st1.getD t 0 = 0
      · have := count_set0 (show t < st1.length by omega) e (v := 2) (by omega); omega
      · have := count_set1 (show t < st1.length by omega) e (v := 2) (by omega); omega
    obtain ⟨K1, hK1⟩ := ih1 (by simpa using hl) (fun x hx => succ_lt hx) (by simp; omega) (by simp; omega)
    obtain ⟨K2, hK2⟩ := ih2 (by simpa using a1') (fun x hx => ho x (List.mem_cons_of_mem _ hx)) (by simp; omega) (by simp; omega)
    obtain ⟨K3, hK3⟩ := refOuts a0 a1 a2 a3 l4 l t ht
    dsimp only at hK1 hK2 hK3
    refine ⟨K1 + K2 + K3 + 1, fun k hk => ?_⟩
    obtain ⟨k, rfl⟩ : ∃ k', k = k' + 1 := ⟨k - 1, by omega⟩
    show ref_into.l _ _ ((t : Int) :: zi o) _ _ _ = _
    dsimp only
    rw [ref_into.l, if_pos ⟨by omega, by rw [zi_len]; omega⟩, zi_rd, h, if_neg (show ¬ ((0 : Nat) : Int) = 1 by omega), if_pos (show ((0 : Nat) : Int) = 0 from rfl)]
    rw [ref_into.f, if_pos ⟨by omega, by rw [zi_len]; omega⟩, hK3 k (by omega), Option.bind_some, ← zi_succ, Int.toNat_natCast, show ((zi st).set t 1) = zi (st.set t 1) from zi_set st t 1, hK1 k (by omega), Option.bind_some, if_pos ⟨by rw [zi_len]; omega, by rw [zi_len]; omega⟩, Option.bind_some]
    have := hK2 (k + 1) (by omega)
    rw [zi_app] at this
    rw [show ((zi st1).set t 2) = zi (st1.set t 2) from zi_set st1 t 2]
    exact this
  | @skip n t o st left bk s h k ih =>
    have ht := ho t (List.mem_cons_self ..)
    simp at hl hs hs2
    obtain ⟨K, hK⟩ := ih hl (fun x hx => ho x (List.mem_cons_of_mem _ hx)) (by simp; omega) (by simp; omega)
    refine ⟨K, fun k hk => ?_⟩
    have := hK k hk
    dsimp only at this ⊢
    show ref_into.l _ _ ((t : Int) :: zi o) _ _ _ = _
    rw [ref_into.l, if_pos ⟨by omega, by rw [zi_len]; omega⟩, zi_rd, if_neg (by omega), if_neg (by omega)]
    exact this
/-- THE COMPILER'S, WITH A STACK -/
theorem flow_loop {l : List S45} {n : Nat} {o : List Nat} {s s' : W3} (h : Loop l n o s s') : s.1.length = l.length → (∀ t ∈ o, t < l.length) → s.2.2.length + o.length + 2 * s.1.count 0 ≤ 1000 → s.2.1.length + s.1.count 0 ≤ 1000 →
    ∃ K c, ∀ k R, K ≤ k → R.length + s.1.count 0 ≤ 1000 → flow_into.l (k + c) a0 a1 a2 a3 l4 l (zi s.1) (zi s.2.1) (zp s.2.2) (((n : Int), zi o) :: R) = flow_into.l k a0 a1 a2 a3 l4 l (zi s'.1) (zi s'.2.1) (zp s'.2.2) (((n : Int), []) :: R) := by
  induction h with
  | nil => intro _ _ _ _; exact ⟨0, 0, fun k R _ _ => rfl⟩
  | @back n t o st left bk s h k ih =>
    intro hl ho hs hs2
    have ht := ho t (List.mem_cons_self ..)
    simp at hl hs hs2
    obtain ⟨K, c, hK⟩ := ih hl (fun x hx => ho x (List.mem_cons_of_mem _ hx)) (by simp; omega) (by simp; omega)
    refine ⟨K, c + 1, fun k R hk hR => ?_⟩
    have := hK k R hk hR
    dsimp only at this ⊢
    show flow_into.l (k + c + 1) _ _ _ _ _ _ _ _ _ (((n : Int), (t : Int) :: zi o) :: R) = _
    rw [flow_into.l, if_pos ⟨by omega, by rw [zi_len]; omega⟩, zi_rd, h, if_pos (show ((1 : Nat) : Int) = 1 from rfl), if_pos (by rw [zp_len]; omega)]
    rw [zp_app] at this
    exact this
  | @into n t o st left st1 left1 bk bk1 s h i k ih1 ih2 =>
    intro hl ho hs hs2
    have ht := ho t (List.mem_cons_self ..)
    simp at hl hs hs2
    have hts : t < st.length := by omega
    have hc := count_set0 hts h (v := 1) (by omega)
    have hsl := succ_len l t
    obtain ⟨a1', a2', a3', a4'⟩ := loop_size i (by simpa using hl) (fun x hx => succ_lt hx)
    simp at a1' a2' a3' a4'
    have hc2 : (st1.set t 2).count 0 ≤ st1.count 0 := by
      by_cases e : st1.getD t 0 = 0
      · have := count_set0 (show t < st1.length by omega) e (v := 2) (by omega); omega
      · have := count_set1 (show t < st1.length by omega) e (v := 2) (by omega); omega
    obtain ⟨K1, c1, hK1⟩ := ih1 (by simpa using hl) (fun x hx => succ_lt hx) (by simp; omega) (by simp; omega)
    obtain ⟨K2, c2, hK2⟩ := ih2 (by simpa using a1') (fun x hx => ho x (List.mem_cons_of_mem _ hx)) (by simp; omega) (by simp; omega)
    obtain ⟨K3, hK3⟩ := flowOuts a0 a1 a2 a3 l4 l t ht
    dsimp only at hK1 hK2 hK3
    refine ⟨K1 + K2 + K3, c2 + 1 + c1 + 1, fun k R hk hR => ?_⟩
    dsimp only at hR
    rw [show k + (c2 + 1 + c1 + 1) = k + c2 + 1 + c1 + 1 by omega]
    show flow_into.l (k + c2 + 1 + c1 + 1) _ _ _ _ _ _ _ _ _ (((n : Int), (t : Int) :: zi o) :: R) = _
    dsimp only
    rw [flow_into.l, if_pos ⟨by omega, by rw [zi_len]; omega⟩, zi_rd, h, if_neg (show ¬ ((0 : Nat) : Int) = 1 by omega), if_pos (show ((0 : Nat) : Int) = 0 from rfl), if_pos (by omega), hK3 _ (by omega), Option.bind_some, ← zi_succ, Int.toNat_natCast, show ((zi st).set t 1) = zi (st.set t 1) from zi_set st t 1]
    rw [hK1 (k + c2 + 1) _ (by omega) (by simp; omega)]
    rw [flow_into.l, if_pos ⟨by omega, by rw [zi_len]; omega, by rw [zi_len]; omega⟩, Int.toNat_natCast, show ((zi st1).set t 2) = zi (st1.set t 2) from zi_set st1 t 2]
    have := hK2 k R (by omega) (by omega)
    rw [zi_app] at this
    exact this
  | @skip n t o st left bk s h k ih =>
    intro hl ho hs hs2
    have ht := ho t (List.mem_cons_self ..)
    simp at hl hs hs2
    obtain ⟨K, c, hK⟩ := ih hl (fun x hx => ho x (List.mem_cons_of_mem _ hx)) (by simp; omega) (by simp; omega)
    refine ⟨K, c + 1, fun k R hk hR => ?_⟩
    have := hK k R hk hR
    dsimp only at this ⊢
    show flow_into.l (k + c + 1) _ _ _ _ _ _ _ _ _ (((n : Int), (t : Int) :: zi o) :: R) = _
    rw [flow_into.l, if_pos ⟨by omega, by rw [zi_len]; omega⟩, zi_rd, if_neg (by omega), if_neg (by omega)]
    exact this
/-! #### a row turned round -/
theorem rev_ev : ∀ (c : Nat) (m a b : List Int), m.length ≤ c → a.length + m.length + b.length ≤ 100000 → Ev (fun k => slices_Reverse_int_int.l0 k (a ++ m ++ b) (a.length : Int) ((a.length : Int) + (m.length : Int) - 1)) (a ++ m.reverse ++ b) := by
  intro c
  induction c using Nat.strongRecOn with
  | _ c ih =>
  intro m a b hc hl
  by_cases h2 : m.length < 2
  · have e : m.reverse = m := by
      cases m with
      | nil => rfl
      | cons x m =>
        cases m with
        | nil => rfl
        | cons y m => simp at h2; omega
    rw [e]
    refine Ev.const fun k => ?_
    simp only [slices_Reverse_int_int.l0]
    rw [if_neg (by omega)]
  · obtain ⟨x, m1, y, rfl⟩ : ∃ x m1 y, m = x :: (m1 ++ [y]) := by
      cases m with
      | nil => simp at h2
      | cons x m =>
        refine ⟨x, m.dropLast, m.getLast (by intro e; subst e; simp at h2), ?_⟩
        rw [List.dropLast_concat_getLast]
    have hlen : (x :: (m1 ++ [y])).length = m1.length + 2 := by simp
    have L : a ++ x :: (m1 ++ [y]) ++ b = a ++ x :: (m1 ++ y :: b) := by simp
    have hx : (a ++ x :: (m1 ++ y :: b))[a.length]? = some x := by simp
    have hy : (a ++ x :: (m1 ++ y :: b))[a.length + m1.length + 1]? = some y := by
      rw [List.getElem?_append_right (by omega), show a.length + m1.length + 1 - a.length = m1.length + 1 by omega, List.getElem?_cons_succ, List.getElem?_append_right (Nat.le_refl _)]; simp
    have hset : ((a ++ x :: (m1 ++ y :: b)).set a.length y).set (a.length + m1.length + 1) x = (a ++ [y]) ++ m1 ++ (x :: b) := by
      rw [List.set_append_right _ _ (Nat.le_refl _), Nat.sub_self, List.set_cons_zero, List.set_append_right _ _ (by omega), show a.length + m1.length + 1 - a.length = m1.length + 1 by omega, List.set_cons_succ, List.set_append_right _ _ (Nat.le_refl _), Nat.sub_self, List.set_cons_zero]
      simp
    have hrev : a ++ (x :: (m1 ++ [y])).reverse ++ b = (a ++ [y]) ++ m1.reverse ++ (x :: b) := by simp
    rw [hrev]
    have hr := ih (c - 2) (by rw [hlen] at hc; omega) m1 (a ++ [y]) (x :: b) (by rw [hlen] at hc; omega) (by rw [hlen] at hl; simp; omega)
    refine Ev.step (fun k => ?_) hr
    simp only [slices_Reverse_int_int.l0]
    rw [hlen] at hl ⊢
    have hj : (a.length : Int) + ((m1.length + 2 : Nat) : Int) - 1 = ((a.length + m1.length + 1 : Nat) : Int) := by omega
    rw [hj, L, if_pos (by omega), if_pos (by omega), if_pos (by simp; omega), if_pos (by omega), if_pos (by simp; omega), atn hx, atn hy, Int.toNat_natCast, Int.toNat_natCast, hset, w64 (by omega) (by omega), w64 (by omega) (by omega)]
    congr 1
    · simp
    · simp; omega
theorem reverse_ev (m : List Int) (hm : m.length ≤ 10000) : Ev (fun k => slices_Reverse_int_int.f k m) m.reverse := by
  have := rev_ev m.length m [] [] (Nat.le_refl _) (by simp; omega)
  simp only [List.nil_append, List.append_nil, List.length_nil] at this
  unfold slices_Reverse_int_int.f
  rw [w64 (by omega) (by omega)]
  refine Ev.congr (fun k => ?_) this
  congr 1
  omega
end Go.Proofs.Ytppanpboejpmjaa.Mf
