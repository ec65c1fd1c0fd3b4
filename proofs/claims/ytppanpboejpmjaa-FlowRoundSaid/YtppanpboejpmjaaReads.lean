/- How data that a row reads are told by the printed kinds: whole numbers, bools, strings, slices and structs of these, nested in each other; no program in sight. -/
import Derived.Test.YtppanpboejpmjaaWWords
import Derived.Test.YtppanpboejpmjaaWLast
import Derived.Test.YtppanpboejpmjaaWMore
import Derived.WideShapes
import Derived.Carry
import Derived.ProofKit
namespace Go.Proofs.Ytppanpboejpmjaa.Reads
open Go Go.RowKit Go.WideShapes Go.Proofs.YtppanpboejpmjaaW.PrintWords Go.Proofs.YtppanpboejpmjaaW.PrintLast

/-- Whatever is read at type t is told by the kind d; G: what is known of it besides. -/
structure Tells (P : Program) (t : TypeId) {α : Type} (d : Kd α) (G : α → Prop) : Prop where
  size : P.cellsOf t = d.sz
  tells : ∀ {H : Type} {enc : TypeId × Value → H} {W : World} {base : Nat} {sp : Nat → Bool} {held : Bool} (fuel : Nat) {cs : List Value} {y : DataW H × List MemPlace},
    DataW.trod enc P W base sp held fuel t cs = some y → ∃ x, d.K W x cs ∧ G x

theorem tells_int {P : Program} {t : TypeId} {k : IntKind} (ht : P.underlying t = some (.int k)) (hs : P.cellsOf t = 1) : Tells P t (Kd.int k) (fun x => (Lit.int k x).wf = true) where
  size := hs
  tells := by
    intro H enc W base sp held fuel cs y h
    obtain ⟨m, rfl⟩ : ∃ m, fuel = m + 1 := by
      cases fuel with
      | zero => simp [DataW.trod] at h
      | succ m => exact ⟨m, rfl⟩
    unfold DataW.trod at h
    rw [ht] at h
    split at h <;> simp_all
    obtain ⟨⟨rfl, hw⟩, _⟩ := h
    exact ⟨_, rfl, hw⟩

theorem tells_bool {P : Program} {t : TypeId} (ht : P.underlying t = some .bool) (hs : P.cellsOf t = 1) : Tells P t Kd.bool (fun _ => True) where
  size := hs
  tells := by
    intro H enc W base sp held fuel cs y h
    obtain ⟨m, rfl⟩ : ∃ m, fuel = m + 1 := by
      cases fuel with
      | zero => simp [DataW.trod] at h
      | succ m => exact ⟨m, rfl⟩
    unfold DataW.trod at h
    rw [ht] at h
    split at h
    any_goals (simp at h; done)
    all_goals simp_all
    rename_i b
    cases b
    · exact .inl rfl
    · exact .inr rfl

theorem tells_string {P : Program} {t : TypeId} (ht : P.underlying t = some .string) (hs : P.cellsOf t = 1) : Tells P t Kd.string (fun x => x.size ≤ maxLen) where
  size := hs
  tells := by
    intro H enc W base sp held fuel cs y h
    obtain ⟨m, rfl⟩ : ∃ m, fuel = m + 1 := by
      cases fuel with
      | zero => simp [DataW.trod] at h
      | succ m => exact ⟨m, rfl⟩
    unfold DataW.trod at h
    rw [ht] at h
    split at h <;> simp_all
    obtain ⟨hw, _⟩ := h
    exact ⟨_, rfl, hw⟩

theorem mapM_range {β : Type} (f : Nat → Option β) : ∀ (n : Nat) (ys : List β), (List.range n).mapM f = some ys → ys.length = n ∧ ∀ i, i < n → ∃ y, f i = some y ∧ ys[i]? = some y := by
  intro n
  induction n with
  | zero => intro ys h; simp at h; subst h; exact ⟨rfl, fun i hi => absurd hi (by omega)⟩
  | succ n ih =>
    intro ys h
    rw [List.range_succ, List.mapM_append] at h
    simp only [Option.bind_eq_bind, Option.bind_eq_some_iff, List.mapM_cons, List.mapM_nil, Option.pure_def] at h
    obtain ⟨a, ha, b, ⟨c, hc, d, hd, hb⟩, hy⟩ := h
    obtain ⟨hl, hx⟩ := ih a ha
    simp only [Option.some.injEq] at hd hb hy
    subst hd; subst hb; subst hy
    refine ⟨by simp [hl], fun i hi => ?_⟩
    by_cases e : i < n
    · obtain ⟨y, h1, h2⟩ := hx i e
      exact ⟨y, h1, by rw [List.getElem?_append_left (by omega)]; exact h2⟩
    · obtain rfl : i = n := by omega
      exact ⟨c, hc, by rw [List.getElem?_append_right (by omega), hl]; simp⟩
theorem choose_list {α : Type} (Q : Nat → α → Prop) : ∀ n : Nat, (∀ i, i < n → ∃ x, Q i x) → ∃ xs : List α, xs.length = n ∧ ∀ i x, xs[i]? = some x → Q i x := by
  intro n
  induction n with
  | zero => intro _; exact ⟨[], rfl, fun i x h => by simp at h⟩
  | succ n ih =>
    intro h
    obtain ⟨xs, hl, hx⟩ := ih (fun i hi => h i (by omega))
    obtain ⟨x, hq⟩ := h n (by omega)
    refine ⟨xs ++ [x], by simp [hl], fun i z hz => ?_⟩
    by_cases e : i < n
    · rw [List.getElem?_append_left (by omega)] at hz; exact hx i z hz
    · have := (List.getElem?_eq_some_iff.1 hz).1
      have : i = n := by simp [hl] at this; omega
      subst this
      rw [List.getElem?_append_right (by omega), hl] at hz
      simp at hz; subst hz; exact hq

theorem add_add (a : Addr) (i j : Nat) : (a.add i).add j = a.add (i + j) := by
  unfold Addr.add
  by_cases h1 : i = 0 <;> by_cases h2 : j = 0 <;> simp [h1, h2]
  exact Nat.add_assoc _ _ _
theorem cells_at {w : World} {base : Nat} {a : Addr} {n : Nat} {cs : List Value} (h : w.cells? base a n = some cs) : cs.length = n ∧ ∀ i u, cs[i]? = some u → w.cell? (a.add i) = some u := by
  unfold World.cells? at h
  split at h
  · obtain ⟨hl, hx⟩ := mapM_range _ _ _ h
    refine ⟨hl, fun i u hu => ?_⟩
    have := (List.getElem?_eq_some_iff.1 hu).1
    obtain ⟨y, h1, h2⟩ := hx i (by omega)
    rw [hu] at h2
    simp only [Option.some.injEq] at h2
    rw [h1, h2]
  · simp at h

/-- A slice's cell. -/
theorem tells_slice {P : Program} {t e : TypeId} {α : Type} {d : Kd α} {G : α → Prop} (ht : P.underlying t = some (.slice e)) (hs : P.cellsOf t = 1) (T : Tells P e d G) :
    Tells P t (Kd.slice e d) (fun xs => xs.length ≤ maxLen ∧ ∀ x ∈ xs, G x) where
  size := hs
  tells := by
    intro H enc W base sp held fuel cs y h
    obtain ⟨m, rfl⟩ : ∃ m, fuel = m + 1 := by
      cases fuel with
      | zero => simp [DataW.trod] at h
      | succ m => exact ⟨m, rfl⟩
    unfold DataW.trod at h
    rw [ht] at h
    split at h
    any_goals (simp at *; done)
    · rename_i h1 _; exact ⟨[], ⟨none, 0, rfl, Nat.le_refl _, rfl, Nat.zero_le _, fun h => absurd h (Nat.lt_irrefl 0)⟩, Nat.zero_le _, fun x hx => by cases hx⟩
    · rename_i e' a len cap he
      simp only [Option.some.injEq, TypeDesc.slice.injEq] at he
      subst he
      simp only at h
      split at h
      · rename_i hb
        obtain ⟨elems, he, h2⟩ := Option.bind_eq_some_iff.1 h
        obtain ⟨hl, hx⟩ := mapM_range _ _ _ he
        have hq : ∀ i, i < len → ∃ x, (∃ c, c.length = d.sz ∧ d.K W x c ∧ ∀ j u, c[j]? = some u → W.cell? (a.add (i * d.sz + j)) = some u) ∧ G x := by
          intro i hi
          obtain ⟨z, hz, _⟩ := hx i hi
          obtain ⟨c, hc, hz⟩ := Option.bind_eq_some_iff.1 hz
          obtain ⟨x, hk, hg⟩ := T.tells _ hz
          rw [T.size] at hc
          obtain ⟨hcl, hcc⟩ := cells_at hc
          exact ⟨x, ⟨c, hcl, hk, fun j u hu => by rw [← add_add]; exact hcc j u hu⟩, hg⟩
        obtain ⟨xs, hxl, hxs⟩ := choose_list _ len hq
        refine ⟨xs, ⟨some a, cap, by rw [hxl], by omega, rfl, ?_, fun _ => ⟨a, rfl, fun j p hj => (hxs j p hj).1⟩⟩, by omega, fun x hx => ?_⟩
        · have : maxLen = 9223372036854775807 := rfl
          omega
        · obtain ⟨i, hi⟩ := List.getElem?_of_mem hx
          exact (hxs i x hi).2
      · simp at h
/-- The fields of a struct from a place on. -/
structure Fields (P : Program) (fs : List Field) (off : Nat) {β : Type} (d : Kd β) (G : β → Prop) : Prop where
  tell : ∀ {H : Type} {enc : TypeId × Value → H} {W : World} {base : Nat} {sp : Nat → Bool} {held : Bool} (fuel : Nat) {cs : List Value} {ys : List (DataW H × List MemPlace)},
    fs.mapM (fun f => DataW.trod enc P W base sp held fuel f.type ((cs.drop f.offset).take (P.cellsOf f.type))) = some ys → ∃ x, d.K W x ((cs.drop off).take d.sz) ∧ G x
theorem fields_last {P : Program} {f : Field} {off : Nat} {α : Type} {d : Kd α} {G : α → Prop} (T : Tells P f.type d G) (ho : f.offset = off) : Fields P [f] off d G := by
  refine ⟨?_⟩
  intro H enc W base sp held fuel cs ys h
  simp only [List.mapM_cons, List.mapM_nil, Option.bind_eq_bind, Option.bind_eq_some_iff] at h
  obtain ⟨a, ha, _⟩ := h
  rw [T.size, ho] at ha
  exact T.tells _ ha
theorem fields_cons {P : Program} {f : Field} {fs : List Field} {off : Nat} {α β : Type} {d : Kd α} {d' : Kd β} {G : α → Prop} {G' : β → Prop} (T : Tells P f.type d G) (ho : f.offset = off) (R : Fields P fs (off + d.sz) d' G') :
    Fields P (f :: fs) off (Kd.pair d d') (fun x => G x.1 ∧ G' x.2) := by
  refine ⟨?_⟩
  intro H enc W base sp held fuel cs ys h
  simp only [List.mapM_cons, Option.bind_eq_bind, Option.bind_eq_some_iff] at h
  obtain ⟨a, ha, b, hb, _⟩ := h
  rw [T.size, ho] at ha
  obtain ⟨x, hx, gx⟩ := T.tells _ ha
  obtain ⟨y, hy, gy⟩ := R.tell fuel hb
  refine ⟨(x, y), ⟨_, _, ?_, hx, hy⟩, gx, gy⟩
  show List.take (d.sz + d'.sz) (cs.drop off) = _
  rw [List.take_add, List.drop_drop]
theorem tells_struct {P : Program} {t : TypeId} {fs : Array Field} {β : Type} {d : Kd β} {G : β → Prop} (ht : P.underlying t = some (.struct fs)) (hs : P.cellsOf t = d.sz) (F : Fields P fs.toList 0 d G) : Tells P t d G where
  size := hs
  tells := by
    intro H enc W base sp held fuel cs y h
    obtain ⟨m, rfl⟩ : ∃ m, fuel = m + 1 := by
      cases fuel with
      | zero => simp [DataW.trod] at h
      | succ m => exact ⟨m, rfl⟩
    unfold DataW.trod at h
    rw [ht] at h
    split at h
    any_goals (simp at *; done)
    rename_i fs' cs' he
    simp only [Option.some.injEq, TypeDesc.struct.injEq] at he
    subst he
    split at h
    · rename_i hl
      obtain ⟨ys, hy, _⟩ := Option.map_eq_some_iff.1 h
      obtain ⟨x, hx, gx⟩ := F.tell m hy
      rw [List.drop_zero, List.take_of_length_le (by omega)] at hx
      exact ⟨x, hx, gx⟩
    · simp at h
theorem tells_iso {P : Program} {t : TypeId} {α β : Type} {d : Kd α} {G : α → Prop} (f : β → α) (g : α → β) (hfg : ∀ a, f (g a) = a) (T : Tells P t d G) : Tells P t (Kd.iso d f) (fun b => G (f b)) where
  size := T.size
  tells := by
    intro H enc W base sp held fuel cs y h
    obtain ⟨x, hx, gx⟩ := T.tells _ h
    refine ⟨g x, ?_, by rw [hfg]; exact gx⟩
    show d.K W (f (g x)) cs
    rw [hfg]; exact hx
end Go.Proofs.Ytppanpboejpmjaa.Reads
