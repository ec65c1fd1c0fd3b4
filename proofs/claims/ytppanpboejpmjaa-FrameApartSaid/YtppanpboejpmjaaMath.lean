/- Plain facts about the printed functions of the seat: numbers, lists, sorting; no program in sight. -/
import Derived.Test.YtppanpboejpmjaaTr14
import Derived.Test.YtppanpboejpmjaaTrTypes
namespace Go.Proofs.Ytppanpboejpmjaa.Math
open Go Go.RowKit Go.Proofs.Ytppanpboejpmjaa.Tr Go.Proofs.Ytppanpboejpmjaa.TrTypes Go.Proofs.YtppanpboejpmjaaW.PrintWords Go.Proofs.YtppanpboejpmjaaW.PrintLast

theorem w64 {a : Int} (h0 : -9223372036854775808 ≤ a) (h1 : a ≤ 9223372036854775807) : wrap64 a = a := by
  unfold wrap64; omega
theorem i64_bd {a : Int} (h : (Lit.int .i64 a).wf = true) : -9223372036854775808 ≤ a ∧ a < 9223372036854775808 := by
  simp [Lit.wf, IntKind.min, IntKind.max, IntKind.signed, IntKind.bits] at h
  omega
theorem atn {l : List Int} {i : Nat} {x : Int} (h : l[i]? = some x) : rd l (i : Int) = x := by
  unfold rd
  rw [Int.toNat_natCast, List.getD_eq_getElem?_getD, h]; rfl
theorem at76 {l : List S76} {i : Nat} {x : S76} (h : l[i]? = some x) : rd_T76 l (i : Int) = x := by
  unfold rd_T76
  rw [Int.toNat_natCast, List.getD_eq_getElem?_getD, h]; rfl
theorem at80 {l : List S80} {i : Nat} {x : S80} (h : l[i]? = some x) : rd_T80 l (i : Int) = x := by
  unfold rd_T80
  rw [Int.toNat_natCast, List.getD_eq_getElem?_getD, h]; rfl
theorem drop_at {α : Type} {l : List α} {i : Nat} (h : i < l.length) : ∃ x, l[i]? = some x ∧ l.drop i = x :: l.drop (i + 1) :=
  ⟨l[i], List.getElem?_eq_getElem h, List.drop_eq_getElem_cons h⟩
theorem next_i {i n : Nat} (h : i < n) (hn : n ≤ 1000000) : wrap64 ((i : Int) + 1) = ((i + 1 : Nat) : Int) := by
  rw [w64 (by omega) (by omega)]; rfl
theorem Ev.const {α : Type} {g : Nat → Option α} {r : α} (h : ∀ k, g (k + 1) = some r) : Ev g r := Ev.step h (Ev.now r)

/-! #### the registers that a frame keeps -/
def names : List Int := [8, 9, 18, 19, 20, 21, 22, 23, 24, 25, 26, 27]
theorem names_sorted : names.Pairwise (· < ·) := by decide
theorem name_at {i : Nat} (h : i < 12) : rushlightref24_Name.f (i : Int) = some (names.getD i 0) := by
  have : ∀ j : Fin 12, rushlightref24_Name.f ((j.val : Nat) : Int) = some (names.getD j.val 0) := by decide +kernel
  exact this ⟨i, h⟩
theorem names_drop {j : Nat} (h : j < 12) : names.drop j = names.getD j 0 :: names.drop (j + 1) := by
  have e : names.getD j 0 = names[j]'h := by rw [List.getD_eq_getElem?_getD, List.getElem?_eq_getElem h]; rfl
  rw [e]; exact List.drop_eq_getElem_cons h

/-! #### few -/
def okSize (x : S76) : Bool := decide (1 ≤ x.f1 ∧ x.f1 ≤ 40000)
def okSeat (x : S80) : Bool := x.f0 == 0 || names.contains x.f0
def fewB (l : List S76) (s : List S80) : Bool := decide (l.length ≤ 60) && decide (s.length ≤ 60) && l.all okSize && s.all okSeat

theorem few_l2 (l : List S80) (hl : l.length ≤ 60) (i : Nat) (x : S80) (hx : l[i]? = some x) (r : Bool) (hr : Ev (fun k => rushlightlaw25_few.l1 k l ((i + 1 : Nat) : Int)) r) :
    ∀ (d j : Nat) (b : Bool), j + d = 12 → Ev (fun k => rushlightlaw25_few.l2 k l (i : Int) b (j : Int)) (if b || (names.drop j).contains x.f0 then r else false) := by
  have hi := (List.getElem?_eq_some_iff.1 hx).1
  intro d
  induction d with
  | zero =>
    intro j b hj
    have e : names.drop j = [] := List.drop_of_length_le (by show 12 ≤ j; omega)
    rw [e]
    cases b with
    | true =>
      refine Ev.step (f := fun k => rushlightlaw25_few.l1 k l ((i + 1 : Nat) : Int)) (fun k => ?_) hr
      simp only [rushlightlaw25_few.l2]
      rw [if_neg (by omega), next_i hi (by omega)]; rfl
    | false =>
      refine Ev.const fun k => ?_
      simp only [rushlightlaw25_few.l2]
      rw [if_neg (by omega)]; rfl
  | succ d ih =>
    intro j b hj
    have hw := next_i (i := j) (n := 12) (by omega) (by omega)
    cases b with
    | true =>
      have := ih (j + 1) true (by omega)
      refine Ev.step (f := fun k => rushlightlaw25_few.l2 k l (i : Int) true ((j + 1 : Nat) : Int)) (fun k => ?_) (by simpa using this)
      simp only [rushlightlaw25_few.l2]
      rw [if_pos (by omega), hw]; rfl
    | false =>
      have := ih (j + 1) (x.f0 == names.getD j 0) (by omega)
      refine Ev.step (f := fun k => rushlightlaw25_few.l2 k l (i : Int) (x.f0 == names.getD j 0) ((j + 1 : Nat) : Int)) (fun k => ?_) ?_
      · simp only [rushlightlaw25_few.l2]
        rw [if_pos (by omega), if_neg (by simp), if_pos (by omega), if_pos (by omega), name_at (by omega), at80 hx, hw]; rfl
      · rw [names_drop (by omega), List.contains_cons, Bool.false_or]; exact this
theorem few_l1 (l : List S80) (hl : l.length ≤ 60) : ∀ (d i : Nat), i + d = l.length → Ev (fun k => rushlightlaw25_few.l1 k l (i : Int)) ((l.drop i).all okSeat) := by
  intro d
  induction d with
  | zero =>
    intro i hi
    have e : l.drop i = [] := List.drop_of_length_le (by omega)
    rw [e]
    refine Ev.const fun k => ?_
    simp only [rushlightlaw25_few.l1]
    rw [if_neg (by omega)]; rfl
  | succ d ih =>
    intro i hi
    obtain ⟨x, hx, e⟩ := drop_at (l := l) (i := i) (by omega)
    rw [e, List.all_cons]
    have := few_l2 l hl i x hx _ (ih (i + 1) (by omega)) 12 0 (x.f0 == 0) rfl
    refine Ev.step (f := fun k => rushlightlaw25_few.l2 k l (i : Int) (x.f0 == 0) ((0 : Nat) : Int)) (fun k => ?_) ?_
    · simp only [rushlightlaw25_few.l1]
      rw [if_pos (by omega), if_pos (by omega), at80 hx]; rfl
    · have e2 : (okSeat x && (l.drop (i + 1)).all okSeat) = (if ((x.f0 == 0) || (names.drop 0).contains x.f0) = true then (l.drop (i + 1)).all okSeat else false) := by
        rw [List.drop_zero]
        show ((x.f0 == 0 || names.contains x.f0) && _) = _
        cases (x.f0 == 0 || names.contains x.f0) <;> rfl
      rw [e2]; exact this
theorem few_l0 (s : List S80) (hs : s.length ≤ 60) (a0 : ByteArray) (a1 : Bool) (a2 a3 : Int) (l : List S76) (l5 : List S45) (hl : l.length ≤ 60) : ∀ (d i : Nat), i + d = l.length → Ev (fun k => rushlightlaw25_few.l0 k s (i : Int) a0 a1 a2 a3 l l5) ((l.drop i).all okSize && s.all okSeat) := by
  intro d
  induction d with
  | zero =>
    intro i hi
    have e : l.drop i = [] := List.drop_of_length_le (by omega)
    rw [e]
    have := few_l1 s hs s.length 0 (by omega)
    refine Ev.step (f := fun k => rushlightlaw25_few.l1 k s ((0 : Nat) : Int)) (fun k => ?_) this
    simp only [rushlightlaw25_few.l0]
    rw [if_neg (by omega)]; rfl
  | succ d ih =>
    intro i hi
    obtain ⟨x, hx, e⟩ := drop_at (l := l) (i := i) (by omega)
    rw [e, List.all_cons]
    have body : ∀ k, rushlightlaw25_few.l0 (k + 1) s (i : Int) a0 a1 a2 a3 l l5 = if x.f1 < 1 then some false else if x.f1 > 40000 then some false else rushlightlaw25_few.l0 k s ((i + 1 : Nat) : Int) a0 a1 a2 a3 l l5 := by
      intro k
      simp only [rushlightlaw25_few.l0]
      rw [if_pos (by omega), if_pos (by omega), at76 hx, next_i (n := l.length) (by omega) (by omega)]
    refine Ev.step body ?_
    by_cases h1 : x.f1 < 1
    · have : okSize x = false := by simp [okSize]; omega
      rw [this]; simp only [if_pos h1]; exact Ev.now _
    · by_cases h2 : x.f1 > 40000
      · have : okSize x = false := by simp [okSize]; omega
        rw [this]; simp only [if_neg h1, if_pos h2]; exact Ev.now _
      · have : okSize x = true := by simp [okSize]; omega
        rw [this]; simp only [if_neg h1, if_neg h2, Bool.true_and]; exact ih (i + 1) (by omega)
theorem few_ev (a0 : ByteArray) (a1 : Bool) (a2 a3 : Int) (l : List S76) (l5 : List S45) (s : List S80) : Ev (fun k => rushlightlaw25_few.f k a0 a1 a2 a3 l l5 s) (fewB l s) := by
  by_cases h1 : l.length ≤ 60
  · by_cases h2 : s.length ≤ 60
    · have := few_l0 s h2 a0 a1 a2 a3 l l5 h1 l.length 0 (by omega)
      have e : fewB l s = ((l.drop 0).all okSize && s.all okSeat) := by simp [fewB, h1, h2]
      rw [e]
      refine Ev.congr (f := fun k => rushlightlaw25_few.j0 k s false a0 a1 a2 a3 l l5) (fun k => ?_) (Ev.step (fun k => ?_) this)
      · simp only [rushlightlaw25_few.f]
        rw [if_neg (by omega), decide_eq_false (by omega)]
      · simp only [rushlightlaw25_few.j0]; rfl
    · have e : fewB l s = false := by simp [fewB, h2]
      rw [e]
      refine Ev.congr (f := fun k => rushlightlaw25_few.j0 k s true a0 a1 a2 a3 l l5) (fun k => ?_) (Ev.const (fun k => ?_))
      · simp only [rushlightlaw25_few.f]
        rw [if_neg (by omega), decide_eq_true (by omega)]
      · simp only [rushlightlaw25_few.j0]; rfl
  · have e : fewB l s = false := by simp [fewB, h1]
    rw [e]
    refine Ev.congr (f := fun k => rushlightlaw25_few.j0 k s true a0 a1 a2 a3 l l5) (fun k => ?_) (Ev.const (fun k => ?_))
    · simp only [rushlightlaw25_few.f]
      rw [if_pos (by omega)]
    · simp only [rushlightlaw25_few.j0]; rfl

/-! #### sorting a short list -/
theorem less_eq (a b : Int) : cmp_Less_int.f a b = some (decide (a < b)) := by
  simp [cmp_Less_int.f, cmp_isNaN_int.f]
theorem sort_l1 (T : List Int) (hT : T.Pairwise (· < ·)) (hn : T.length ≤ 1000) : ∀ (m : Nat) (p q : List Int) (v : Int) (rest : List Int), p.length = m → (p ++ q).Pairwise (· < ·) → (∀ y ∈ q, v < y) → ((p ++ v :: q) ++ rest).Perm T →
    (∀ s : List Int, s.Pairwise (· < ·) → (s ++ rest).Perm T → s.length = p.length + q.length + 1 → Ev (fun k => slices_insertionSortOrdered_int.l0 k (s ++ rest) 0 (T.length : Int) (s.length : Int)) T) →
    Ev (fun k => slices_insertionSortOrdered_int.l1 k ((p ++ v :: q) ++ rest) 0 (T.length : Int) ((p.length + q.length : Nat) : Int) (p.length : Int)) T := by
  intro m
  induction m with
  | zero =>
    intro p q v rest hp hs hv hperm hk
    obtain rfl : p = [] := List.length_eq_zero_iff.1 hp
    have hlen : (v :: q ++ rest).length = T.length := hperm.length_eq
    have := hk (v :: q) (List.pairwise_cons.2 ⟨hv, hs⟩) hperm (by simp)
    refine Ev.step (f := fun k => slices_insertionSortOrdered_int.l0 k (v :: q ++ rest) 0 (T.length : Int) ((v :: q).length : Int)) (fun k => ?_) this
    simp only [List.length_append, List.length_cons] at hlen
    simp only [slices_insertionSortOrdered_int.l1]
    rw [if_neg (by simp), w64 (by simp; omega) (by simp; omega)]
    simp
  | succ m ih =>
    intro p q v rest hp hs hv hperm hk
    obtain ⟨p', u, rfl⟩ : ∃ p' u, p = p' ++ [u] := by
      rcases List.eq_nil_or_concat p with h | ⟨a, b, h⟩
      · subst h; simp at hp
      · exact ⟨a, b, by rw [h]; simp⟩
    have hp' : p'.length = m := by simpa using hp
    have hlen : (p' ++ [u] ++ v :: q ++ rest).length = T.length := hperm.length_eq
    simp only [List.length_append, List.length_cons, List.length_nil] at hlen
    have hnd : (p' ++ [u] ++ v :: q ++ rest).Nodup := hperm.symm.nodup (hT.imp (fun h => Int.ne_of_lt h))
    have huv : u ≠ v := by
      intro e; subst e
      have h1 : ([u, u] : List Int).Sublist (p' ++ [u] ++ u :: q ++ rest) := by
        have : (p' ++ [u] ++ u :: q ++ rest) = p' ++ ([u, u] ++ (q ++ rest)) := by simp
        rw [this]
        exact (List.sublist_append_left _ _).trans (List.sublist_append_right _ _)
      have := hnd.sublist h1
      simp at this
    have r1 : rd (p' ++ [u] ++ v :: q ++ rest) ((m + 1 : Nat) : Int) = v := by
      refine atn ?_
      rw [show p' ++ [u] ++ v :: q ++ rest = (p' ++ [u]) ++ (v :: (q ++ rest)) by simp, List.getElem?_append_right (by simp; omega)]
      simp [hp']
    have r2 : rd (p' ++ [u] ++ v :: q ++ rest) (m : Int) = u := by
      refine atn ?_
      rw [show p' ++ [u] ++ v :: q ++ rest = p' ++ (u :: (v :: (q ++ rest))) by simp, List.getElem?_append_right (by omega)]
      simp [hp']
    have hw : wrap64 (((m + 1 : Nat) : Int) - 1) = (m : Int) := by rw [w64 (by omega) (by omega)]; omega
    have hset : ((p' ++ [u] ++ v :: q ++ rest).set (m + 1) u).set m v = (p' ++ v :: (u :: q)) ++ rest := by
      subst hp'
      rw [show p' ++ [u] ++ v :: q ++ rest = p' ++ (u :: (v :: (q ++ rest))) by simp, List.set_append_right _ _ (by omega), List.set_append_right _ _ (by omega)]
      simp
    have body : ∀ k, slices_insertionSortOrdered_int.l1 (k + 1) (p' ++ [u] ++ v :: q ++ rest) 0 (T.length : Int) (((p' ++ [u]).length + q.length : Nat) : Int) ((p' ++ [u]).length : Int) =
        if v < u then slices_insertionSortOrdered_int.l1 k ((p' ++ v :: (u :: q)) ++ rest) 0 (T.length : Int) ((p'.length + (u :: q).length : Nat) : Int) (p'.length : Int)
        else slices_insertionSortOrdered_int.l0 k (p' ++ [u] ++ v :: q ++ rest) 0 (T.length : Int) (((p' ++ [u] ++ v :: q).length : Nat) : Int) := by
      intro k
      have e1 : ((p' ++ [u]).length : Int) = ((m + 1 : Nat) : Int) := by rw [hp]
      have l1 : (p' ++ [u] ++ v :: q ++ rest).length = T.length := by simp only [List.length_append, List.length_cons, List.length_nil]; omega
      simp only [slices_insertionSortOrdered_int.l1]
      rw [e1, hw, r1, r2, if_pos (by omega), if_pos (by omega), if_pos (by omega), if_pos (by omega), if_pos (by omega), less_eq]
      simp only [Option.bind_some, decide_eq_true_eq, Int.toNat_natCast, hset]
      have e2 : (((p' ++ [u]).length + q.length : Nat) : Int) = ((p'.length + (u :: q).length : Nat) : Int) := by simp only [List.length_append, List.length_cons, List.length_nil]; omega
      have e3 : wrap64 ((((p' ++ [u]).length + q.length : Nat) : Int) + 1) = ((p' ++ [u] ++ v :: q).length : Int) := by
        simp only [List.length_append, List.length_cons, List.length_nil]
        rw [w64 (by omega) (by omega)]; omega
      rw [e3, e2, hp']
    refine Ev.step body ?_
    by_cases h : v < u
    · simp only [if_pos h]
      refine ih p' (u :: q) v rest hp' (by simpa using hs) (fun y hy => ?_) ?_ (fun s h1 h2 h3 => hk s h1 h2 (by simp at h3 ⊢; omega))
      · rcases List.mem_cons.1 hy with rfl | hy
        · exact h
        · exact hv y hy
      · refine List.Perm.trans ?_ hperm
        refine List.Perm.append_right rest ?_
        simp only [List.append_assoc, List.singleton_append]
        exact List.Perm.append_left p' (List.Perm.swap u v q)
    · simp only [if_neg h]
      refine hk (p' ++ [u] ++ v :: q) ?_ hperm (by simp; omega)
      have hs' := List.pairwise_append.1 hs
      refine List.pairwise_append.2 ⟨hs'.1, List.pairwise_cons.2 ⟨hv, hs'.2.1⟩, fun a ha b hb => ?_⟩
      rcases List.mem_cons.1 hb with rfl | hb
      · have ha' := List.pairwise_append.1 hs'.1
        rcases List.mem_append.1 ha with h1 | h1
        · have := ha'.2.2 a h1 u (by simp); omega
        · simp at h1; omega
      · exact hs'.2.2 a ha b hb
theorem sort_l0 (T : List Int) (hT : T.Pairwise (· < ·)) (hn : T.length ≤ 1000) : ∀ (rest s : List Int), s.Pairwise (· < ·) → (s ++ rest).Perm T → Ev (fun k => slices_insertionSortOrdered_int.l0 k (s ++ rest) 0 (T.length : Int) (s.length : Int)) T := by
  intro rest
  induction rest with
  | nil =>
    intro s hs hp
    rw [List.append_nil] at hp ⊢
    have hl := hp.length_eq
    have e : s = T := List.Perm.eq_of_pairwise (le := (· < ·)) (fun a b _ _ h1 h2 => by omega) hs hT hp
    refine Ev.const fun k => ?_
    simp only [slices_insertionSortOrdered_int.l0]
    rw [if_neg (by omega), e]
  | cons v rest ih =>
    intro s hs hp
    have hl := hp.length_eq
    simp only [List.length_append, List.length_cons] at hl
    have e : s ++ v :: rest = (s ++ v :: []) ++ rest := by simp
    refine Ev.step (f := fun k => slices_insertionSortOrdered_int.l1 k ((s ++ v :: []) ++ rest) 0 (T.length : Int) ((s.length + ([] : List Int).length : Nat) : Int) (s.length : Int)) (fun k => ?_)
      (sort_l1 T hT hn s.length s [] v rest rfl (by simpa using hs) (by simp) (by simpa using hp) (fun s' h1 h2 h3 => ih s' h1 h2))
    simp only [slices_insertionSortOrdered_int.l0]
    rw [if_pos (by omega), e]; rfl
theorem sort_ev {l T : List Int} (hT : T.Pairwise (· < ·)) (hp : l.Perm T) (hn : T.length ≤ 12) : Ev (fun k => slices_Sort_int_int.f k l) T := by
  have hl := hp.length_eq
  cases l with
  | nil =>
    obtain rfl : T = [] := by simpa using hl.symm
    refine ⟨1, fun k hk => ?_⟩
    obtain ⟨k, rfl⟩ : ∃ j, k = j + 1 := ⟨k - 1, by omega⟩
    simp [slices_Sort_int_int.f, slices_insertionSortOrdered_int.f, slices_insertionSortOrdered_int.l0, wrap64]
  | cons v rest =>
    have := sort_l0 T hT (by omega) rest [v] (by simp) (by simpa using hp)
    refine Ev.congr (fun k => ?_) this
    simp only [slices_Sort_int_int.f, slices_insertionSortOrdered_int.f]
    rw [if_pos (by omega), w64 (by omega) (by omega), hl]; rfl

/-! #### is it there -/
theorem index_loop (l : List Int) (v : Int) (hl : l.length ≤ 100000) : ∀ (d i : Nat), i + d = l.length → ∃ r : Int, Ev (fun k => slices_Index_int_int.l0 k l v (l.length : Int) (i : Int)) r ∧ (0 ≤ r ↔ v ∈ l.drop i) := by
  intro d
  induction d with
  | zero =>
    intro i hi
    have e : l.drop i = [] := List.drop_of_length_le (by omega)
    rw [e]
    refine ⟨-1, Ev.const fun k => ?_, by simp⟩
    simp only [slices_Index_int_int.l0]
    rw [if_neg (by omega)]
  | succ d ih =>
    intro i hi
    obtain ⟨x, hx, e⟩ := drop_at (l := l) (i := i) (by omega)
    rw [e]
    have body : ∀ k, slices_Index_int_int.l0 (k + 1) l v (l.length : Int) (i : Int) = if v = x then some (i : Int) else slices_Index_int_int.l0 k l v (l.length : Int) ((i + 1 : Nat) : Int) := by
      intro k
      simp only [slices_Index_int_int.l0]
      rw [if_pos (by omega), if_pos (by omega), if_pos (by omega), atn hx, next_i (n := l.length) (by omega) (by omega)]
    by_cases h : v = x
    · refine ⟨i, Ev.step body ?_, by simp [h]⟩
      simp only [if_pos h]; exact Ev.now _
    · obtain ⟨r, h1, h2⟩ := ih (i + 1) (by omega)
      refine ⟨r, Ev.step body ?_, by simp [h2, h]⟩
      simp only [if_neg h]; exact h1
theorem contains_ev {l : List Int} (v : Int) (hl : l.length ≤ 100000) : Ev (fun k => slices_Contains_int_int.f k l v) (decide (v ∈ l)) := by
  obtain ⟨r, h1, h2⟩ := index_loop l v hl l.length 0 (by omega)
  have e : decide (v ∈ l) = decide (r ≥ 0) := by rw [List.drop_zero] at h2; exact decide_eq_decide.2 h2.symm
  rw [e]
  exact Ev.bind (g := fun k => slices_Index_int_int.f k l v) h1 (Ev.now _)
end Go.Proofs.Ytppanpboejpmjaa.Math
