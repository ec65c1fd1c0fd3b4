/- Plain facts about lists of records, as the printed functions have them: which records are kept, whether a list is orderly; no program in sight. -/
import Derived.Test.YtkogbckiglilbaaAllTypes
import Derived.Test.YtkogbckiglilbaaAll7
namespace Go.Proofs.Ytkogbckiglilbaa.Math
open Go Go.RowKit Go.Proofs.Ytkogbckiglilbaa.All Go.Proofs.Ytkogbckiglilbaa.AllTypes Go.Proofs.YtkogbckiglilbaaW.PrintWords Go.Proofs.YtkogbckiglilbaaW.PrintLast

theorem w64 {a : Int} (h0 : -9223372036854775808 ≤ a) (h1 : a ≤ 9223372036854775807) : wrap64 a = a := by
  unfold wrap64; omega
theorem u32_bd {a : Int} (h : (Lit.int .u32 a).wf = true) : 0 ≤ a ∧ a < 4294967296 := by
  simp [Lit.wf, IntKind.min, IntKind.max, IntKind.signed, IntKind.bits] at h
  omega
theorem u32_mk {a : Int} (h : 0 ≤ a ∧ a < 4294967296) : (Lit.int .u32 a).wf = true := by
  simp [Lit.wf, IntKind.min, IntKind.max, IntKind.signed, IntKind.bits]
  omega
/-- a list whose numbers are words -/
def Good (l : List S38) : Prop := ∀ x ∈ l, 0 ≤ x.f0 ∧ x.f0 < 4294967296
theorem good_of {l : List S38} (h : ∀ y ∈ l, g38 y) : Good l := fun x hx => u32_bd (h x hx).1
theorem Good.drop {l : List S38} (h : Good l) (i : Nat) : Good (l.drop i) := fun x hx => h x (List.mem_of_mem_drop hx)
theorem at38 {l : List S38} {i : Nat} {x : S38} (h : l[i]? = some x) : rd_T38 l (i : Int) = x := by
  unfold rd_T38
  rw [Int.toNat_natCast, List.getD_eq_getElem?_getD, h]; rfl
theorem at35 {l : List S35} {i : Nat} {x : S35} (h : l[i]? = some x) : rd_T35 l (i : Int) = x := by
  unfold rd_T35
  rw [Int.toNat_natCast, List.getD_eq_getElem?_getD, h]; rfl
theorem atn {l : List Int} {i : Nat} {x : Int} (h : l[i]? = some x) : rd l (i : Int) = x := by
  unfold rd
  rw [Int.toNat_natCast, List.getD_eq_getElem?_getD, h]; rfl
theorem drop_at {α : Type} {l : List α} {i : Nat} (h : i < l.length) : ∃ x, l[i]? = some x ∧ l.drop i = x :: l.drop (i + 1) :=
  ⟨l[i], List.getElem?_eq_getElem h, List.drop_eq_getElem_cons h⟩

/-! #### the records that are kept -/
theorem go_congr : ∀ (l : List S38) (ns ms : List Int), (∀ x, x ∈ ns ↔ x ∈ ms) → record_First.go ns l = record_First.go ms l := by
  intro l
  induction l with
  | nil => intro ns ms _; rfl
  | cons r l ih =>
    intro ns ms h
    have e : ns.contains r.f0 = ms.contains r.f0 := by
      rw [Bool.eq_iff_iff]; simp [h]
    show (if ns.contains r.f0 then _ else _) = (if ms.contains r.f0 then _ else _)
    rw [e]
    split
    · exact ih ns ms h
    · rw [ih (r.f0 :: ns) (r.f0 :: ms) (fun x => by simp [h])]
theorem go_length (l : List S38) : ∀ ns, (record_First.go ns l).length ≤ l.length := by
  induction l with
  | nil => intro ns; exact Nat.le_refl _
  | cons r l ih =>
    intro ns
    show (if ns.contains r.f0 then record_First.go ns l else r :: record_First.go (r.f0 :: ns) l).length ≤ _
    split
    · have := ih ns; simp; omega
    · have := ih (r.f0 :: ns); simp; omega
theorem go_mem (l : List S38) : ∀ ns x, x ∈ record_First.go ns l → x ∈ l := by
  induction l with
  | nil => intro ns x h; exact h
  | cons r l ih =>
    intro ns x h
    have h' : x ∈ (if ns.contains r.f0 then record_First.go ns l else r :: record_First.go (r.f0 :: ns) l) := h
    split at h'
    · exact List.mem_cons_of_mem _ (ih _ _ h')
    · rcases List.mem_cons.1 h' with h2 | h2
      · rw [h2]; exact List.mem_cons_self
      · exact List.mem_cons_of_mem _ (ih _ _ h2)
theorem first_eq {l : List S38} (hl : l.length < 17592186044416) (hg : Good l) : record_First.f l = some (record_First.go [] l) := by
  unfold record_First.f
  rw [if_pos hl, if_pos]
  exact List.all_eq_true.2 fun x hx => u32_mk (hg x hx)
/-- a record whose number was met before changes nothing -/
theorem go_more (q : List S38) (x : S38) : ∀ (p : List S38) (ns : List Int), (x.f0 ∈ ns ∨ ∃ y ∈ p, y.f0 = x.f0) → record_First.go ns (p ++ x :: q) = record_First.go ns (p ++ q) := by
  intro p
  induction p with
  | nil =>
    intro ns h
    rcases h with h | ⟨y, hy, _⟩
    · show (if ns.contains x.f0 then _ else _) = _
      rw [if_pos (by simpa using h)]; rfl
    · cases hy
  | cons r p ih =>
    intro ns h
    show (if ns.contains r.f0 then record_First.go ns (p ++ x :: q) else r :: record_First.go (r.f0 :: ns) (p ++ x :: q)) = (if ns.contains r.f0 then record_First.go ns (p ++ q) else r :: record_First.go (r.f0 :: ns) (p ++ q))
    split
    · rename_i hc
      refine ih ns ?_
      rcases h with h | ⟨y, hy, e⟩
      · exact .inl h
      · rcases List.mem_cons.1 hy with h2 | h2
        · left; rw [← e, h2]; simpa using hc
        · exact .inr ⟨y, h2, e⟩
    · rw [ih (r.f0 :: ns) ?_]
      rcases h with h | ⟨y, hy, e⟩
      · exact .inl (List.mem_cons_of_mem _ h)
      · rcases List.mem_cons.1 hy with h2 | h2
        · left; rw [← e, h2]; exact List.mem_cons_self
        · exact .inr ⟨y, h2, e⟩

/-! #### orderly lists -/
/-- the values that were had, behind a list; none: the list isn't orderly -/
def run : List Int → List S38 → Option (List Int)
  | had, [] => some had
  | had, r :: l => if r.f0 > (had.length : Int) then none else if r.f0 = (had.length : Int) then run (had ++ [r.f1]) l else if had.getD r.f0.toNat 0 = r.f1 then run had l else none
theorem run_append (p q : List S38) : ∀ had, run had (p ++ q) = (run had p).bind fun h => run h q := by
  induction p with
  | nil => intro had; rfl
  | cons r p ih =>
    intro had
    simp only [List.cons_append, run]
    split
    · rfl
    · split
      · exact ih _
      · split
        · exact ih _
        · rfl
theorem run_length (l : List S38) : ∀ had h, run had l = some h → had.length ≤ h.length ∧ ∀ i, i < had.length → h.getD i 0 = had.getD i 0 := by
  induction l with
  | nil => intro had h e; simp only [run, Option.some.injEq] at e; subst e; exact ⟨Nat.le_refl _, fun _ _ => rfl⟩
  | cons r l ih =>
    intro had h e
    simp only [run] at e
    split at e
    · cases e
    · split at e
      · obtain ⟨h1, h2⟩ := ih _ _ e
        rw [List.length_append] at h1
        simp at h1
        refine ⟨by omega, fun i hi => ?_⟩
        rw [h2 i (by simp; omega)]
        rw [List.getD_eq_getElem?_getD, List.getElem?_append_left hi, ← List.getD_eq_getElem?_getD]
      · split at e
        · exact ih _ _ e
        · cases e
/-- each record of an orderly list has the value that was had under its number -/
theorem run_mem (l : List S38) : ∀ had h, Good l → run had l = some h → ∀ r ∈ l, r.f0 < (h.length : Int) ∧ h.getD r.f0.toNat 0 = r.f1 := by
  induction l with
  | nil => intro had h _ _ r hr; cases hr
  | cons x l ih =>
    intro had h hg e r hr
    have hgx := hg x List.mem_cons_self
    simp only [run] at e
    split at e
    · cases e
    · split at e
      · rename_i h1 h2
        rcases List.mem_cons.1 hr with h3 | h3
        · subst h3
          obtain ⟨l1, l2⟩ := run_length _ _ _ e
          have hn : r.f0.toNat = had.length := by omega
          rw [List.length_append] at l1
          simp at l1
          refine ⟨by omega, ?_⟩
          rw [hn, l2 _ (by simp), List.getD_eq_getElem?_getD, List.getElem?_append_right (Nat.le_refl _)]
          simp
        · exact ih _ _ (fun y hy => hg y (List.mem_cons_of_mem _ hy)) e r h3
      · split at e
        · rename_i h1 h2 h4
          rcases List.mem_cons.1 hr with h3 | h3
          · subst h3
            obtain ⟨l1, l2⟩ := run_length _ _ _ e
            exact ⟨by omega, by rw [l2 _ (by omega)]; exact h4⟩
          · exact ih _ _ (fun y hy => hg y (List.mem_cons_of_mem _ hy)) e r h3
        · cases e
/-- of an orderly list the kept records have the numbers in order -/
theorem run_numbers (l : List S38) : ∀ had h ns, Good l → run had l = some h → (∀ x : Int, x ∈ ns ↔ 0 ≤ x ∧ x < had.length) → ∀ i r, (record_First.go ns l)[i]? = some r → r.f0 = ((had.length + i : Nat) : Int) := by
  induction l with
  | nil => intro had h ns _ _ _ i r hr; simp [record_First.go] at hr
  | cons x l ih =>
    intro had h ns hg e hns i r hr
    have hgx := hg x List.mem_cons_self
    have hgl : Good l := fun y hy => hg y (List.mem_cons_of_mem _ hy)
    have hr' : (if ns.contains x.f0 then record_First.go ns l else x :: record_First.go (x.f0 :: ns) l)[i]? = some r := hr
    simp only [run] at e
    split at e
    · cases e
    · split at e
      · rename_i h1 h2
        rw [if_neg (by rw [List.contains_iff_mem, hns]; omega)] at hr'
        cases i with
        | zero => simp at hr'; subst hr'; rw [h2]; simp
        | succ i =>
          rw [List.getElem?_cons_succ] at hr'
          have := ih _ _ (x.f0 :: ns) hgl e (fun y => by rw [List.mem_cons, hns]; simp; omega) i r hr'
          rw [this]; simp; omega
      · split at e
        · rename_i h1 h2 h3
          rw [if_pos (by rw [List.contains_iff_mem, hns]; omega)] at hr'
          exact ih _ _ ns hgl e hns i r hr'
        · cases e

/-- a record with a number that was met, put behind: the list stays orderly just if the value is the one that was had -/
theorem run_more (p q : List S38) (x r : S38) (had : List Int) (hg : Good p) (hr : r ∈ p) (hx : x.f0 = r.f0) (hq : (run had (p ++ q)).isSome = true) :
    (run had (p ++ x :: q)).isSome = decide (x.f1 = r.f1) := by
  rw [run_append] at hq ⊢
  cases e : run had p with
  | none => rw [e] at hq; simp at hq
  | some h =>
    rw [e] at hq
    simp only [Option.bind_some] at hq ⊢
    obtain ⟨h1, h2⟩ := run_mem p had h hg e r hr
    simp only [run]
    rw [if_neg (by omega), if_neg (by omega), hx, h2]
    by_cases hv : r.f1 = x.f1
    · rw [if_pos hv, hq, decide_eq_true hv.symm]
    · rw [if_neg hv, decide_eq_false (fun h => hv h.symm)]; rfl
end Go.Proofs.Ytkogbckiglilbaa.Math
