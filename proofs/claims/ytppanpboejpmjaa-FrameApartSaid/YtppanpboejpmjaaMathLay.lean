/- What the frame of a function comes to, in the code and in the reference; no program in sight. -/
import Derived.Test.YtppanpboejpmjaaMath
namespace Go.Proofs.Ytppanpboejpmjaa.Math
open Go Go.RowKit Go.Proofs.Ytppanpboejpmjaa.Tr Go.Proofs.Ytppanpboejpmjaa.TrTypes Go.Proofs.YtppanpboejpmjaaW.PrintWords Go.Proofs.YtppanpboejpmjaaW.PrintLast

/-- the registers that a frame saves: those of the seats, in order -/
def saved (s : List S80) : List Int := names.filter fun n => s.any fun x => x.f0 == n
theorem saved_sorted (s : List S80) : (saved s).Pairwise (· < ·) := names_sorted.filter _
theorem saved_length (s : List S80) : (saved s).length ≤ 12 := List.length_filter_le _ names
theorem saved_mem {s : List S80} (n : Int) : n ∈ saved s ↔ n ∈ names ∧ ∃ x ∈ s, x.f0 = n := by
  simp [saved]

/-! #### the code's -/
/-- the seats' registers in the order met -/
def met : List Int → List S80 → List Int
  | out, [] => out
  | out, x :: s => if x.f0 > 0 then (if x.f0 ∈ out then met out s else met (out ++ [x.f0]) s) else met out s
theorem met_nodup (s : List S80) : ∀ out : List Int, out.Nodup → (met out s).Nodup := by
  induction s with
  | nil => intro out h; exact h
  | cons x s ih =>
    intro out h
    simp only [met]
    split
    · split
      · exact ih out h
      · rename_i h1
        refine ih _ (List.nodup_append.2 ⟨h, by simp, ?_⟩)
        intro a ha b hb e; simp at hb; subst hb; subst e; exact h1 ha
    · exact ih out h
theorem met_mem (s : List S80) : ∀ (out : List Int) (n : Int), n ∈ met out s ↔ n ∈ out ∨ (n > 0 ∧ ∃ x ∈ s, x.f0 = n) := by
  induction s with
  | nil => intro out n; simp [met]
  | cons x s ih =>
    intro out n
    simp only [met]
    split
    · rename_i h0
      split
      · rename_i h1
        rw [ih]
        constructor
        · rintro (h | ⟨h, y, hy, e⟩)
          · exact .inl h
          · exact .inr ⟨h, y, List.mem_cons_of_mem _ hy, e⟩
        · rintro (h | ⟨h, y, hy, e⟩)
          · exact .inl h
          · rcases List.mem_cons.1 hy with rfl | hy
            · exact .inl (e ▸ h1)
            · exact .inr ⟨h, y, hy, e⟩
      · rw [ih]
        constructor
        · rintro (h | ⟨h, y, hy, e⟩)
          · rcases List.mem_append.1 h with h | h
            · exact .inl h
            · simp at h; exact .inr ⟨by omega, x, by simp, h.symm⟩
          · exact .inr ⟨h, y, List.mem_cons_of_mem _ hy, e⟩
        · rintro (h | ⟨h, y, hy, e⟩)
          · exact .inl (List.mem_append_left _ h)
          · rcases List.mem_cons.1 hy with rfl | hy
            · exact .inl (List.mem_append_right _ (by simp [e]))
            · exact .inr ⟨h, y, hy, e⟩
    · rename_i h0
      rw [ih]
      constructor
      · rintro (h | ⟨h, y, hy, e⟩)
        · exact .inl h
        · exact .inr ⟨h, y, List.mem_cons_of_mem _ hy, e⟩
      · rintro (h | ⟨h, y, hy, e⟩)
        · exact .inl h
        · rcases List.mem_cons.1 hy with rfl | hy
          · omega
          · exact .inr ⟨h, y, hy, e⟩
theorem names_pos {n : Int} (h : n ∈ names) : n > 0 := by
  have : ∀ m ∈ names, m > 0 := by decide
  exact this n h
theorem met_saved {s : List S80} (hs : s.all okSeat = true) : (met [] s).Perm (saved s) := by
  refine (List.perm_ext_iff_of_nodup (met_nodup s [] (by simp)) ((saved_sorted s).imp (fun h => Int.ne_of_lt h))).2 fun n => ?_
  rw [met_mem, saved_mem]
  constructor
  · rintro (h | ⟨h, x, hx, e⟩)
    · simp at h
    · refine ⟨?_, x, hx, e⟩
      have := List.all_eq_true.1 hs x hx
      simp [okSeat] at this
      rcases this with h1 | h1
      · omega
      · rw [← e]; exact h1
  · rintro ⟨h, x, hx, e⟩
    exact .inr ⟨names_pos h, x, hx, e⟩
theorem given_loop (s : List S80) (hs : s.length ≤ 60) (T : List Int) (hT : T.Pairwise (· < ·)) (hT2 : T.length ≤ 12) : ∀ (d i : Nat) (out : List Int), i + d = s.length → out.length ≤ i → (met out (s.drop i)).Perm T →
    Ev (fun k => alloc_Given.l0 k out s (s.length : Int) (i : Int)) T := by
  intro d
  induction d with
  | zero =>
    intro i out hi ho hp
    have e : s.drop i = [] := List.drop_of_length_le (by omega)
    rw [e] at hp
    refine Ev.step (f := fun k => (slices_Sort_int_int.f k out).bind fun t => some t) (fun k => ?_) (Ev.bind (sort_ev hT hp hT2) (Ev.now _))
    simp only [alloc_Given.l0]
    rw [if_neg (by omega)]
  | succ d ih =>
    intro i out hi ho hp
    obtain ⟨x, hx, e⟩ := drop_at (l := s) (i := i) (by omega)
    rw [e] at hp
    simp only [met] at hp
    have body : ∀ k, alloc_Given.l0 (k + 1) out s (s.length : Int) (i : Int) = if x.f0 > 0 then ((slices_Contains_int_int.f k out x.f0).bind fun t => if t = true then alloc_Given.l0 k out s (s.length : Int) ((i + 1 : Nat) : Int) else alloc_Given.l0 k (out ++ [x.f0]) s (s.length : Int) ((i + 1 : Nat) : Int)) else alloc_Given.l0 k out s (s.length : Int) ((i + 1 : Nat) : Int) := by
      intro k
      simp only [alloc_Given.l0]
      rw [if_pos (by omega), if_pos (by omega), if_pos (by omega), at80 hx, next_i (n := s.length) (by omega) (by omega)]
      simp only [if_pos (show out.length < 17592186044416 by omega)]
    refine Ev.step body ?_
    by_cases h : x.f0 > 0
    · simp only [if_pos h] at hp ⊢
      refine Ev.bind (contains_ev x.f0 (by omega)) ?_
      by_cases h2 : x.f0 ∈ out
      · simp only [if_pos h2] at hp
        simp only [decide_eq_true h2, if_true]
        exact ih (i + 1) out (by omega) (by omega) hp
      · simp only [if_neg h2] at hp
        simp only [decide_eq_false h2, Bool.false_eq_true, if_false]
        exact ih (i + 1) (out ++ [x.f0]) (by omega) (by simp; omega) hp
    · simp only [if_neg h] at hp ⊢
      exact ih (i + 1) out (by omega) (by omega) hp
theorem given_ev {s : List S80} (h : s.length ≤ 60) (hs : s.all okSeat = true) : Ev (fun k => alloc_Given.f k s) (saved s) := by
  have := given_loop s h (saved s) (saved_sorted s) (saved_length s) s.length 0 [] (by omega) (by simp) (by rw [List.drop_zero]; exact met_saved hs)
  exact this

/-! #### the places of the objects -/
def up (x : Int) : Int := (x + 3) / 4 * 4
def places : List Int → Int → List S76 → List Int × Int
  | out, x, [] => (out, x)
  | out, x, o :: l => places (out ++ [x]) (up (x + o.f1)) l
theorem up_eq {x : Int} (h0 : 0 ≤ x) (h1 : x ≤ 1099511627776) : irrun_up.f x = some (up x) := by
  have e1 : wrap64 (wrap64 (x + 4) - 1) = x + 3 := by rw [w64 (a := x + 4) (by omega) (by omega), w64 (by omega) (by omega)]; omega
  simp only [irrun_up.f, e1]
  have : Int.tdiv (x + 3) 4 = (x + 3) / 4 := Int.tdiv_eq_ediv_of_nonneg (by omega)
  rw [this, w64 (a := (x + 3) / 4) (by omega) (by omega), w64 (by omega) (by omega)]; rfl
theorem place_loop (l : List S76) (hl : l.length ≤ 60) (hs : l.all okSize = true) : ∀ (d i : Nat) (out : List Int) (x : Int), i + d = l.length → out.length ≤ i → 0 ≤ x → x ≤ 50000 * (i : Int) →
    Ev (fun k => irrun_Place.l0 k x out l (l.length : Int) (i : Int)) (places out x (l.drop i)) := by
  intro d
  induction d with
  | zero =>
    intro i out x hi ho h0 h1
    have e : l.drop i = [] := List.drop_of_length_le (by omega)
    rw [e]
    refine Ev.const fun k => ?_
    simp only [irrun_Place.l0]
    rw [if_neg (by omega)]; rfl
  | succ d ih =>
    intro i out x hi ho h0 h1
    obtain ⟨o, hx, e⟩ := drop_at (l := l) (i := i) (by omega)
    have hok := List.all_eq_true.1 hs o (List.mem_of_getElem? hx)
    simp [okSize] at hok
    have hu : up (x + o.f1) = (x + o.f1 + 3) / 4 * 4 := rfl
    rw [e]
    have hw := next_i (i := i) (n := l.length) (by omega) (by omega)
    have hw2 : wrap64 (x + o.f1) = x + o.f1 := w64 (by omega) (by omega)
    refine Ev.step (fun k => ?_) (ih (i + 1) (out ++ [x]) (up (x + o.f1)) (by omega) (by simp; omega) (by omega) (by omega))
    simp only [irrun_Place.l0]
    rw [if_pos (by omega), if_pos (by omega), if_pos (by omega), if_pos (by omega), at76 hx, hw, hw2, up_eq (by omega) (by omega)]; rfl
theorem places_at (l : List S76) (hs : l.all okSize = true) : ∀ (out : List Int) (x : Int), 0 ≤ x → (∀ n ∈ out, 0 ≤ n ∧ n ≤ x) →
    (places out x l).1.length = out.length + l.length ∧ x ≤ (places out x l).2 ∧ (places out x l).2 ≤ x + 40004 * (l.length : Int) ∧ ∀ n ∈ (places out x l).1, 0 ≤ n ∧ n ≤ (places out x l).2 := by
  induction l with
  | nil => intro out x h0 h; simp only [places]; exact ⟨by simp, Int.le_refl _, by simp, h⟩
  | cons o l ih =>
    intro out x h0 h
    rw [List.all_cons, Bool.and_eq_true] at hs
    have hok := hs.1
    simp [okSize] at hok
    have hu : up (x + o.f1) = (x + o.f1 + 3) / 4 * 4 := rfl
    simp only [places]
    obtain ⟨h1, h2, h3, h4⟩ := ih hs.2 (out ++ [x]) (up (x + o.f1)) (by omega) (fun n hn => by
      rcases List.mem_append.1 hn with hn | hn
      · have := h n hn; omega
      · simp at hn; omega)
    refine ⟨by rw [h1]; simp; omega, by omega, ?_, h4⟩
    simp only [List.length_cons]; omega
theorem place_ev {l : List S76} (hl : l.length ≤ 60) (hs : l.all okSize = true) : Ev (fun k => irrun_Place.f k l) (places [] 0 l) := by
  have := place_loop l hl hs l.length 0 [] 0 (by omega) (by simp) (Int.le_refl _) (by omega)
  exact this
/-! #### the frame -/
/-- what both say of the frame -/
def laid (l : List S76) (s : List S80) (a3 n : Int) : Int × List Int × Int × List Int × Int :=
  if n < 0 then (0, [], 0, [], 1) else if (s.length : Int) = a3 then (if n > 2000 then (0, [], 0, [], 2) else
    if 4 + 4 * ((saved s).length : Int) + 4 * n + (places [] 0 l).2 > 2000 then (0, [], 0, [], 2) else
      (4 + 4 * ((saved s).length : Int) + 4 * n + (places [] 0 l).2, saved s, 4 + 4 * ((saved s).length : Int), (places [] 0 l).1.map (fun x => 4 + 4 * ((saved s).length : Int) + 4 * n + x), 0)) else (0, [], 0, [], 1)
theorem lay_ev (a0 : ByteArray) (a1 : Bool) (a2 a3 n : Int) {l : List S76} (l5 : List S45) {s : List S80} (hl : l.length ≤ 60) (hs : s.length ≤ 60) (hz : l.all okSize = true) (hk : s.all okSeat = true) :
    Ev (fun k => frame_Lay.f k a0 a1 a2 a3 l l5 s n) (laid l s a3 n) := by
  have hlen := saved_length s
  obtain ⟨p1, p2, p3, p4⟩ := places_at l hz [] 0 (Int.le_refl _) (by simp)
  unfold frame_Lay.f laid
  by_cases h1 : n < 0
  · simp only [if_pos h1]; exact Ev.now _
  · simp only [if_neg h1]
    by_cases h2 : (s.length : Int) = a3
    · simp only [if_pos h2]
      by_cases h3 : n > 2000
      · simp only [if_pos h3]; exact Ev.now _
      · simp only [if_neg h3]
        refine Ev.bind (given_ev hs hk) (Ev.bind (place_ev hl hz) ?_)
        refine Ev.congr (fun k => ?_) (Ev.now _)
        unfold frame_Lay.rest
        rw [if_pos ⟨by omega, by rw [p1]; simp; omega, by omega, fun x hx => by have := p4 x hx; omega⟩]
        split <;> rfl
    · simp only [if_neg h2]; exact Ev.now _
end Go.Proofs.Ytppanpboejpmjaa.Math
