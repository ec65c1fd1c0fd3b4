/- What the printed loops over records come to, with enough rounds; no program in sight. -/
import Derived.Test.YtkogbckiglilbaaMath
namespace Go.Proofs.Ytkogbckiglilbaa.Math
open Go Go.RowKit Go.Proofs.Ytkogbckiglilbaa.All Go.Proofs.Ytkogbckiglilbaa.AllTypes Go.Proofs.YtkogbckiglilbaaW.PrintWords Go.Proofs.YtkogbckiglilbaaW.PrintLast

theorem Ev.const {α : Type} {g : Nat → Option α} {r : α} (h : ∀ k, g (k + 1) = some r) : Ev g r := Ev.step h (Ev.now r)
theorem Good.get {l : List S38} (h : Good l) {i : Nat} {x : S38} (hx : l[i]? = some x) : 0 ≤ x.f0 ∧ x.f0 < 4294967296 := h x (List.mem_of_getElem? hx)

theorem orderly_loop (l : List S38) (hl : l.length ≤ 1000) (hg : Good l) : ∀ (d i : Nat) (had : List Int), i + d = l.length → had.length ≤ i →
    Ev (fun k => record_Orderly.l0 k had l (l.length : Int) (i : Int)) (run had (l.drop i)).isSome := by
  intro d
  induction d with
  | zero =>
    intro i had hi hh
    have e : l.drop i = [] := List.drop_of_length_le (by omega)
    rw [e]
    refine Ev.const fun k => ?_
    simp only [record_Orderly.l0]
    rw [if_neg (by omega)]; rfl
  | succ d ih =>
    intro i had hi hh
    obtain ⟨x, hx, e⟩ := drop_at (l := l) (i := i) (by omega)
    obtain ⟨b0, b1⟩ := hg.get hx
    rw [e]
    have hm : ((had.length : Int)) % 4294967296 = (had.length : Int) := by omega
    have hw : wrap64 ((i : Int) + 1) = ((i + 1 : Nat) : Int) := by rw [w64 (by omega) (by omega)]; rfl
    have body : ∀ k, record_Orderly.l0 (k + 1) had l (l.length : Int) (i : Int) = if x.f0 > (had.length : Int) then some false else if x.f0 = (had.length : Int) then record_Orderly.l0 k (had ++ [x.f1]) l (l.length : Int) ((i + 1 : Nat) : Int) else if rd had x.f0 = x.f1 then record_Orderly.l0 k had l (l.length : Int) ((i + 1 : Nat) : Int) else some false := by
      intro k
      simp only [record_Orderly.l0]
      rw [if_pos (by omega), if_pos (by omega), if_pos (by omega), at38 hx, hm, hw]
      by_cases h1 : x.f0 > (had.length : Int)
      · rw [if_pos h1, if_pos h1]
      · rw [if_neg h1, if_neg h1]
        by_cases h2 : x.f0 = (had.length : Int)
        · rw [if_pos h2, if_pos h2, if_pos (by omega)]
        · rw [if_neg h2, if_neg h2, if_pos (by omega), if_pos (by omega)]
    refine Ev.step body ?_
    have hrd : rd had x.f0 = had.getD x.f0.toNat 0 := rfl
    rw [hrd]
    simp only [run]
    by_cases h1 : x.f0 > (had.length : Int)
    · simp only [if_pos h1]; exact Ev.now _
    · simp only [if_neg h1]
      by_cases h2 : x.f0 = (had.length : Int)
      · simp only [if_pos h2]
        exact ih (i + 1) (had ++ [x.f1]) (by omega) (by simp; omega)
      · simp only [if_neg h2]
        by_cases h3 : had.getD x.f0.toNat 0 = x.f1
        · simp only [if_pos h3]
          exact ih (i + 1) had (by omega) (by omega)
        · simp only [if_neg h3]; exact Ev.now _
theorem orderly_ev {l : List S38} (hl : l.length ≤ 1000) (hg : Good l) : Ev (fun k => record_Orderly.f k l) (run [] l).isSome :=
  orderly_loop l hl hg l.length 0 [] (by omega) (Nat.le_refl _)

theorem values_loop (l : List S38) (hl : l.length ≤ 1000) : ∀ (d i : Nat) (out : List Int), i + d = l.length → out.length ≤ i →
    Ev (fun k => record_Values.l0 k out l (l.length : Int) (i : Int)) (out ++ (l.drop i).map (·.f1)) := by
  intro d
  induction d with
  | zero =>
    intro i out hi ho
    have e : l.drop i = [] := List.drop_of_length_le (by omega)
    rw [e]
    refine Ev.const fun k => ?_
    simp only [record_Values.l0]
    rw [if_neg (by omega)]; simp
  | succ d ih =>
    intro i out hi ho
    obtain ⟨x, hx, e⟩ := drop_at (l := l) (i := i) (by omega)
    rw [e]
    have hw : wrap64 ((i : Int) + 1) = ((i + 1 : Nat) : Int) := by rw [w64 (by omega) (by omega)]; rfl
    refine Ev.step (f := fun k => record_Values.l0 k (out ++ [x.f1]) l (l.length : Int) ((i + 1 : Nat) : Int)) (fun k => ?_) ?_
    · simp only [record_Values.l0]
      rw [if_pos (by omega), if_pos (by omega), if_pos (by omega), if_pos (by omega), at38 hx, hw]
    · have := ih (i + 1) (out ++ [x.f1]) (by omega) (by simp; omega)
      simpa using this
theorem values_ev {l : List S38} (hl : l.length ≤ 1000) (hg : Good l) : Ev (fun k => record_Values.f k l) ((record_First.go [] l).map (·.f1)) := by
  unfold record_Values.f
  rw [first_eq (by omega) hg]
  have hn := go_length l []
  have := values_loop (record_First.go [] l) (by omega) (record_First.go [] l).length 0 [] (by omega) (Nat.le_refl _)
  simpa using this
theorem replays_eq {l : List S38} (hl : l.length ≤ 1000) (hg : Good l) : record_Replays.f l = some ((l.length : Int) - ((record_First.go [] l).length : Int)) := by
  unfold record_Replays.f
  rw [first_eq (by omega) hg]
  have hn := go_length l []
  simp only [Option.bind_some]
  rw [w64 (by omega) (by omega)]

/-! #### awake -/
theorem awake_ev : Ev (fun k => rushlightlaw04_awake.f k) true :=
  Ev.of rushlightlaw04_awake.mono (k := 20) (by decide +kernel)

/-! #### the reference -/
/-- a record as the reference has it -/
def cv (x : S38) : S35 := ⟨x.f0, x.f1⟩
theorem ref_loop (l : List S38) (hl : l.length ≤ 1000) : ∀ (d i : Nat) (out : List S35), i + d = l.length → out.length ≤ i →
    Ev (fun k => rushlightlaw04_Ref.l0 k l out (i : Int)) (out ++ (l.drop i).map cv) := by
  intro d
  induction d with
  | zero =>
    intro i out hi ho
    have e : l.drop i = [] := List.drop_of_length_le (by omega)
    rw [e]
    refine Ev.const fun k => ?_
    simp only [rushlightlaw04_Ref.l0]
    rw [if_neg (by omega)]; simp
  | succ d ih =>
    intro i out hi ho
    obtain ⟨x, hx, e⟩ := drop_at (l := l) (i := i) (by omega)
    rw [e]
    have hw : wrap64 ((i : Int) + 1) = ((i + 1 : Nat) : Int) := by rw [w64 (by omega) (by omega)]; rfl
    refine Ev.step (f := fun k => rushlightlaw04_Ref.l0 k l (out ++ [cv x]) ((i + 1 : Nat) : Int)) (fun k => ?_) ?_
    · simp only [rushlightlaw04_Ref.l0]
      rw [if_pos (by omega), if_pos (by omega), if_pos (by omega), at38 hx, hw]; rfl
    · have := ih (i + 1) (out ++ [cv x]) (by omega) (by simp; omega)
      simpa using this
theorem ref_ev {l : List S38} (hl : l.length ≤ 1000) : Ev (fun k => rushlightlaw04_Ref.f k l) (l.map cv) := by
  have := ref_loop l hl l.length 0 [] (by omega) (Nat.le_refl _)
  rw [List.drop_zero, List.nil_append] at this
  exact this

/-- the numbers of the records ahead of a place -/
def seqs (l : List S38) (i : Nat) : List Int := (l.take i).map (·.f0)
theorem seqs_succ {l : List S38} {i : Nat} {x : S38} (hx : l[i]? = some x) (s : Int) : s ∈ seqs l (i + 1) ↔ s ∈ seqs l i ∨ s = x.f0 := by
  obtain ⟨h1, h2⟩ := List.getElem?_eq_some_iff.1 hx
  unfold seqs
  rw [List.take_succ_eq_append_getElem h1, h2]
  simp
theorem mem_seqs {l : List S38} {i m : Nat} {y : S38} (hm : m < i) (hy : l[m]? = some y) : y.f0 ∈ seqs l i := by
  refine List.mem_map.2 ⟨y, ?_, rfl⟩
  apply List.mem_of_getElem? (i := m)
  rw [List.getElem?_take_of_lt hm]; exact hy
theorem seqs_mem {l : List S38} {i : Nat} {s : Int} (h : s ∈ seqs l i) : ∃ m y, m < i ∧ l[m]? = some y ∧ y.f0 = s := by
  obtain ⟨y, hy, e⟩ := List.mem_map.1 h
  obtain ⟨m, hm⟩ := List.getElem?_of_mem hy
  have hlt : m < i := by
    have := (List.getElem?_eq_some_iff.1 hm).1
    rw [List.length_take] at this; omega
  exact ⟨m, y, hlt, by rw [List.getElem?_take_of_lt hlt] at hm; exact hm, e⟩
theorem map_at {l : List S38} {i : Nat} {x : S38} (h : l[i]? = some x) : (l.map cv)[i]? = some (cv x) := by rw [List.getElem?_map, h]; rfl
/-- what the search ahead of place i tells -/
def Tells (l : List S38) (i : Nat) (s t : Int) : Prop := (t = -1 ∧ s ∉ seqs l i) ∨ ∃ m y, m < i ∧ t = (m : Int) ∧ l[m]? = some y ∧ y.f0 = s ∧ ∀ m' z, m' < m → l[m']? = some z → z.f0 ≠ s
theorem ahead_loop (l : List S38) (hl : l.length ≤ 1000) (i : Nat) (x : S38) (hx : l[i]? = some x) : ∀ (d j : Nat), j + d = i → (∀ m z, m < j → l[m]? = some z → z.f0 ≠ x.f0) →
    ∃ t, Ev (fun k => rushlightref04_ahead.l0 k (l.map cv) (i : Int) (j : Int)) t ∧ Tells l i x.f0 t := by
  have hi : i < l.length := (List.getElem?_eq_some_iff.1 hx).1
  intro d
  induction d with
  | zero =>
    intro j hj hn
    refine ⟨-1, Ev.const fun k => ?_, .inl ⟨rfl, fun h => ?_⟩⟩
    · simp only [rushlightref04_ahead.l0]
      rw [if_neg (by omega)]
    · obtain ⟨m, y, hm, hy, e⟩ := seqs_mem h
      exact hn m y (by omega) hy e
  | succ d ih =>
    intro j hj hn
    obtain ⟨y, hy, _⟩ := drop_at (l := l) (i := j) (by omega)
    have hw : wrap64 ((j : Int) + 1) = ((j + 1 : Nat) : Int) := by rw [w64 (by omega) (by omega)]; rfl
    have body : ∀ k, rushlightref04_ahead.l0 (k + 1) (l.map cv) (i : Int) (j : Int) = if y.f0 = x.f0 then some (j : Int) else rushlightref04_ahead.l0 k (l.map cv) (i : Int) ((j + 1 : Nat) : Int) := by
      intro k
      simp only [rushlightref04_ahead.l0]
      rw [List.length_map, if_pos (by omega), if_pos (by omega), if_pos (by omega), if_pos (by omega), if_pos (by omega), at35 (map_at hy), at35 (map_at hx), hw]; rfl
    by_cases h : y.f0 = x.f0
    · refine ⟨(j : Int), Ev.const fun k => by rw [body, if_pos h], .inr ⟨j, y, by omega, rfl, hy, h, fun m z hm hz => hn m z hm hz⟩⟩
    · obtain ⟨t, ht, hs⟩ := ih (j + 1) (by omega) (fun m z hm hz => by
        by_cases e : m = j
        · subst e; rw [hy] at hz; injection hz with hz; rw [← hz]; exact h
        · exact hn m z (by omega) hz)
      exact ⟨t, Ev.step (fun k => by rw [body, if_neg h]) ht, hs⟩
theorem ahead_ev (l : List S38) (hl : l.length ≤ 1000) (i : Nat) (x : S38) (hx : l[i]? = some x) :
    ∃ t, Ev (fun k => rushlightref04_ahead.f k (l.map cv) (i : Int)) t ∧ Tells l i x.f0 t :=
  ahead_loop l hl i x hx i 0 (by omega) (fun m _ hm => by omega)

theorem reffirst_loop (l : List S38) (hl : l.length ≤ 1000) : ∀ (d i : Nat) (out : List S35), i + d = l.length → out.length ≤ i →
    Ev (fun k => rushlightref04_First.l0 k (l.map cv) out (i : Int)) (out ++ (record_First.go (seqs l i) (l.drop i)).map cv) := by
  intro d
  induction d with
  | zero =>
    intro i out hi ho
    have e : l.drop i = [] := List.drop_of_length_le (by omega)
    rw [e]
    refine Ev.const fun k => ?_
    simp only [rushlightref04_First.l0]
    rw [List.length_map, if_neg (by omega)]; simp [record_First.go]
  | succ d ih =>
    intro i out hi ho
    obtain ⟨x, hx, e⟩ := drop_at (l := l) (i := i) (by omega)
    rw [e]
    have hw : wrap64 ((i : Int) + 1) = ((i + 1 : Nat) : Int) := by rw [w64 (by omega) (by omega)]; rfl
    obtain ⟨t, ht, hs⟩ := ahead_ev l hl i x hx
    have e2 : record_First.go (x.f0 :: seqs l i) (l.drop (i + 1)) = record_First.go (seqs l (i + 1)) (l.drop (i + 1)) := go_congr _ _ _ (fun s => by rw [seqs_succ hx, List.mem_cons]; exact Or.comm)
    refine Ev.step (fun k => by simp only [rushlightref04_First.l0]; rw [List.length_map, if_pos (by omega)]) (Ev.bind ht ?_)
    rcases hs with ⟨ht1, hs⟩ | ⟨m, y, hm, ht1, hy, hy1, _⟩
    · have e3 : record_First.go (seqs l i) (x :: l.drop (i + 1)) = x :: record_First.go (seqs l (i + 1)) (l.drop (i + 1)) := by
        simp only [record_First.go]
        rw [if_neg (by rw [List.contains_iff_mem]; exact hs), e2]
      rw [e3]
      refine Ev.congr (f := fun k => rushlightref04_First.l0 k (l.map cv) (out ++ [cv x]) ((i + 1 : Nat) : Int)) (fun k => ?_) ?_
      · rw [if_pos (by omega), if_pos (by omega), if_pos (by omega), at35 (map_at hx), hw]
      · have := ih (i + 1) (out ++ [cv x]) (by omega) (by simp; omega)
        simpa using this
    · have hin : x.f0 ∈ seqs l i := by rw [← hy1]; exact mem_seqs hm hy
      have e3 : record_First.go (seqs l i) (x :: l.drop (i + 1)) = record_First.go (seqs l (i + 1)) (l.drop (i + 1)) := by
        simp only [record_First.go]
        rw [if_pos (by rw [List.contains_iff_mem]; exact hin)]
        exact go_congr _ _ _ (fun s => by rw [seqs_succ hx]; exact ⟨.inl, fun h => h.elim id (fun h => by rw [h]; exact hin)⟩)
      rw [e3]
      refine Ev.congr (f := fun k => rushlightref04_First.l0 k (l.map cv) out ((i + 1 : Nat) : Int)) (fun k => ?_) (ih (i + 1) out (by omega) (by omega))
      rw [if_neg (by omega), hw]
theorem reffirst_ev {l : List S38} (hl : l.length ≤ 1000) : Ev (fun k => rushlightref04_First.f k (l.map cv)) ((record_First.go [] l).map cv) := by
  have := reffirst_loop l hl l.length 0 [] (by omega) (Nat.le_refl _)
  rw [List.drop_zero, List.nil_append] at this
  exact this

/-! #### the reference's order -/
structure Inv (l : List S38) (i : Nat) (had : List Int) : Prop where
  mem : ∀ s : Int, s ∈ seqs l i ↔ 0 ≤ s ∧ s < (had.length : Int)
  val : ∀ m x, m < i → l[m]? = some x → (∀ m' y, m' < m → l[m']? = some y → y.f0 ≠ x.f0) → had.getD x.f0.toNat 0 = x.f1
theorem Inv.start (l : List S38) : Inv l 0 [] := ⟨fun s => by simp [seqs]; try omega, fun m x hm => by omega⟩
theorem Inv.more {l : List S38} {i : Nat} {had : List Int} {x : S38} (h : Inv l i had) (hx : l[i]? = some x) (e : x.f0 = (had.length : Int)) : Inv l (i + 1) (had ++ [x.f1]) where
  mem := fun s => by rw [seqs_succ hx, h.mem, e]; simp; omega
  val := fun m y hm hy hf => by
    by_cases hmi : m = i
    · subst hmi
      rw [hx] at hy; injection hy with hy; subst hy
      have : x.f0.toNat = had.length := by omega
      rw [this, List.getD_eq_getElem?_getD, List.getElem?_append_right (Nat.le_refl _)]; simp
    · have h1 := (h.mem y.f0).1 (mem_seqs (by omega) hy)
      rw [List.getD_eq_getElem?_getD, List.getElem?_append_left (by omega), ← List.getD_eq_getElem?_getD]
      exact h.val m y (by omega) hy hf
theorem Inv.same {l : List S38} {i : Nat} {had : List Int} {x : S38} (h : Inv l i had) (hx : l[i]? = some x) (e : x.f0 ∈ seqs l i) : Inv l (i + 1) had where
  mem := fun s => by rw [seqs_succ hx, h.mem]; have := (h.mem x.f0).1 e; constructor <;> intro hs <;> omega
  val := fun m y hm hy hf => by
    by_cases hmi : m = i
    · subst hmi
      rw [hx] at hy; injection hy with hy; subst hy
      obtain ⟨m', z, hm', hz, ez⟩ := seqs_mem e
      exact absurd ez (hf m' z hm' hz)
    · exact h.val m y (by omega) hy hf
/-- the greatest number ahead of place j, or -1 -/
def Most (l : List S38) (j : Nat) (m : Int) : Prop := (∀ s ∈ seqs l j, s ≤ m) ∧ (m = -1 ∨ m ∈ seqs l j)
set_option maxHeartbeats 4000000 in
theorem reforderly_loop (l : List S38) (hl : l.length ≤ 1000) (hg : Good l) : ∀ (d i : Nat) (had : List Int), i + d = l.length → Inv l i had → had.length ≤ i →
    Ev (fun k => rushlightref04_Orderly.l0 k (l.map cv) (i : Int)) (run had (l.drop i)).isSome := by
  intro d
  induction d with
  | zero =>
    intro i had hi _ _
    have e : l.drop i = [] := List.drop_of_length_le (by omega)
    rw [e]
    refine Ev.const fun k => ?_
    simp only [rushlightref04_Orderly.l0]
    rw [List.length_map, if_neg (by omega)]; rfl
  | succ d ih =>
    intro i had hi hv hh
    obtain ⟨x, hx, e⟩ := drop_at (l := l) (i := i) (by omega)
    obtain ⟨b0, b1⟩ := hg.get hx
    rw [e]
    have hw : wrap64 ((i : Int) + 1) = ((i + 1 : Nat) : Int) := by rw [w64 (by omega) (by omega)]; rfl
    refine Ev.step (f := fun k => rushlightref04_Orderly.l1 k (l.map cv) (i : Int) (-1) ((0 : Nat) : Int)) (fun k => by simp only [rushlightref04_Orderly.l0]; rw [List.length_map, if_pos (by omega)]; rfl) ?_
    have inner : ∀ (d2 j : Nat) (most : Int), j + d2 = i → -1 ≤ most → most < 4294967296 → Most l j most → Ev (fun k => rushlightref04_Orderly.l1 k (l.map cv) (i : Int) most (j : Int)) (run had (x :: l.drop (i + 1))).isSome := by
      intro d2
      induction d2 with
      | zero =>
        intro j most hj m0 m1 hm
        obtain rfl : j = i := by omega
        have hmost : most = (had.length : Int) - 1 := by
          obtain ⟨h1, h2⟩ := hm
          by_cases hz : had.length = 0
          · rcases h2 with h2 | h2
            · omega
            · have := (hv.mem most).1 h2; omega
          · have := h1 _ ((hv.mem ((had.length : Int) - 1)).2 (by omega))
            rcases h2 with h2 | h2
            · omega
            · have := (hv.mem most).1 h2; omega
        obtain ⟨t, ht, hs⟩ := ahead_ev l hl j x hx
        have body : ∀ k, rushlightref04_Orderly.l1 (k + 1) (l.map cv) (j : Int) most (j : Int) = if x.f0 > (had.length : Int) then some false else ((rushlightref04_ahead.f k (l.map cv) (j : Int)).bind fun t162 => (if t162 ≥ 0 then (if 0 ≤ t162 then (if t162 < (l.length : Int) then (if ((rd_T35 (l.map cv) t162).f1) = x.f1 then (rushlightref04_Orderly.l0 k (l.map cv) ((j + 1 : Nat) : Int)) else (some false)) else (none)) else (none)) else (rushlightref04_Orderly.l0 k (l.map cv) ((j + 1 : Nat) : Int)))) := by
          intro k
          simp only [rushlightref04_Orderly.l1]
          rw [List.length_map, if_neg (by omega), if_pos (by omega), if_pos (by omega), at35 (map_at hx), hw]
          have e1 : wrap64 (cv x).f0 = x.f0 := w64 (by show _ ≤ x.f0; omega) (by show x.f0 ≤ _; omega)
          have e2 : wrap64 (most + 1) = (had.length : Int) := by rw [w64 (by omega) (by omega)]; omega
          rw [e1, e2]; rfl
        refine Ev.step body ?_
        simp only [run]
        by_cases h1 : x.f0 > (had.length : Int)
        · simp only [if_pos h1]; exact Ev.now _
        · simp only [if_neg h1]
          refine Ev.bind ht ?_
          rcases hs with ⟨ht1, hs⟩ | ⟨m, y, hm', ht1, hy, hy1, hf⟩
          · have h2 : x.f0 = (had.length : Int) := by
              rw [hv.mem] at hs; omega
            rw [if_pos h2]
            refine Ev.congr (f := fun k => rushlightref04_Orderly.l0 k (l.map cv) ((j + 1 : Nat) : Int)) (fun k => by rw [if_neg (by omega)]) (ih (j + 1) (had ++ [x.f1]) (by omega) (hv.more hx h2) (by simp; omega))
          · have hin : x.f0 ∈ seqs l j := by rw [← hy1]; exact mem_seqs hm' hy
            have h3 := (hv.mem x.f0).1 hin
            have h4 : had.getD x.f0.toNat 0 = y.f1 := by rw [← hy1]; exact hv.val m y hm' hy (fun m' z hm2 hz => by rw [hy1]; exact hf m' z hm2 hz)
            rw [if_neg (show ¬ x.f0 = (had.length : Int) by omega), h4]
            have hlen : m < l.length := (List.getElem?_eq_some_iff.1 hy).1
            have body2 : ∀ k, (if t ≥ 0 then (if 0 ≤ t then (if t < (l.length : Int) then (if ((rd_T35 (l.map cv) t).f1) = x.f1 then (rushlightref04_Orderly.l0 k (l.map cv) ((j + 1 : Nat) : Int)) else (some false)) else (none)) else (none)) else (rushlightref04_Orderly.l0 k (l.map cv) ((j + 1 : Nat) : Int))) = if y.f1 = x.f1 then (rushlightref04_Orderly.l0 k (l.map cv) ((j + 1 : Nat) : Int)) else (some false) := by
              intro k
              rw [ht1, if_pos (by omega), if_pos (by omega), if_pos (by omega), at35 (map_at hy)]; rfl
            refine Ev.congr body2 ?_
            by_cases h5 : y.f1 = x.f1
            · simp only [if_pos h5]
              exact ih (j + 1) had (by omega) (hv.same hx hin) (by omega)
            · simp only [if_neg h5]; exact Ev.now _
      | succ d2 ih2 =>
        intro j most hj
        have hj0 := hj
        have hj' : j < i := by omega
        have hj2 : j < l.length := by omega
        clear hj
        have q0 : (0 : Int) ≤ (j : Int) := Int.natCast_nonneg j
        have q1 : (j : Int) < (i : Int) := Int.ofNat_lt.2 hj'
        have q2 : (j : Int) < (l.length : Int) := Int.ofNat_lt.2 hj2
        intro m0 m1 hm
        obtain ⟨y, hy, _⟩ := drop_at hj2
        obtain ⟨c0, c1⟩ := hg.get hy
        have hwj : wrap64 ((j : Int) + 1) = ((j + 1 : Nat) : Int) := by rw [w64 (by omega) (by omega)]; rfl
        have body : ∀ k, rushlightref04_Orderly.l1 (k + 1) (l.map cv) (i : Int) most (j : Int) = if y.f0 > most then rushlightref04_Orderly.l1 k (l.map cv) (i : Int) y.f0 ((j + 1 : Nat) : Int) else rushlightref04_Orderly.l1 k (l.map cv) (i : Int) most ((j + 1 : Nat) : Int) := by
          intro k
          simp only [rushlightref04_Orderly.l1]
          have e1 : wrap64 (cv y).f0 = y.f0 := w64 (by show _ ≤ y.f0; omega) (by show y.f0 ≤ _; omega)
          rw [List.length_map, if_pos q1, if_pos q0, if_pos q2, at35 (map_at hy), hwj, e1]
        refine Ev.step body ?_
        by_cases h1 : y.f0 > most
        · simp only [if_pos h1]
          refine ih2 (j + 1) y.f0 (by clear ih2 ih; omega) (by omega) c1 ⟨fun s hs => ?_, .inr ((seqs_succ hy _).2 (.inr rfl))⟩
          rcases (seqs_succ hy s).1 hs with h2 | h2
          · have := hm.1 s h2; omega
          · omega
        · simp only [if_neg h1]
          refine ih2 (j + 1) most (by clear ih2 ih; omega) m0 m1 ⟨fun s hs => ?_, ?_⟩
          · rcases (seqs_succ hy s).1 hs with h2 | h2
            · exact hm.1 s h2
            · omega
          · rcases hm.2 with h2 | h2
            · exact .inl h2
            · exact .inr ((seqs_succ hy _).2 (.inl h2))
    exact inner i 0 (-1) (by omega) (by omega) (by omega) ⟨fun s hs => by simp [seqs] at hs, .inl rfl⟩
theorem reforderly_ev {l : List S38} (hl : l.length ≤ 1000) (hg : Good l) : Ev (fun k => rushlightref04_Orderly.f k (l.map cv)) (run [] l).isSome :=
  reforderly_loop l hl hg l.length 0 [] (by omega) (Inv.start l) (Nat.le_refl _)
end Go.Proofs.Ytkogbckiglilbaa.Math
