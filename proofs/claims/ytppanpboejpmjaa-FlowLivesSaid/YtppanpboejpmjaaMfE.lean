/- The reference's Live tells the words; the law FlowLives' conditions; no program in sight. -/
import Derived.Test.YtppanpboejpmjaaMfD
set_option linter.all false
namespace Go.Proofs.Ytppanpboejpmjaa.Mf
open Go Go.RowKit Go.Proofs.Ytppanpboejpmjaa.Tr Go.Proofs.YtppanpboejpmjaaW.PrintWords Go.Proofs.YtppanpboejpmjaaW.PrintLast

variable {l : List S45}
theorem blk_rd (n : Nat) : rd_T45 l (n : Int) = blk l n := by simp [rd_T45, blk]
/-- where the reference's search stands -/
structure Srch (l : List S45) (r : Int) (n : Nat) (seen : List Bool) (todo : List Int) (i : Nat) : Prop where
  ls : seen.length = l.length
  td : ∀ x ∈ todo, 0 ≤ x ∧ x < (l.length : Int)
  hi : i ≤ todo.length
  sn : ∀ b : Nat, b < l.length → (seen.getD b false = true ↔ (b : Int) ∈ todo.take i)
  dn : ∀ b : Nat, (b : Int) ∈ todo.take i → withinOf (blk l b) (blk l b).f0 r ≠ 1 ∧ (withinOf (blk l b) (blk l b).f0 r = 0 → ∀ s ∈ outsOf l b, s ∈ todo)
  go : ∀ b : Nat, (b : Int) ∈ todo → LiveIn l r b → ∃ s : Nat, (s : Int) ∈ outsOf l n ∧ LiveIn l r s
  st : ∀ s ∈ outsOf l n, s ∈ todo
  ln : todo.length + 2 * seen.count false ≤ 2 + 2 * l.length
theorem take_mem {l : List Int} {i : Nat} {x y : Int} (hx : l[i]? = some x) : y ∈ l.take (i + 1) ↔ y ∈ l.take i ∨ y = x := by
  rw [List.take_succ, hx]; simp
theorem count_set {s : List Bool} {b : Nat} (hb : b < s.length) (h : s.getD b false = false) : (s.set b true).count false + 1 = s.count false := by
  induction s generalizing b with
  | nil => simp at hb
  | cons x s ih =>
    cases b with
    | zero =>
      simp at h; subst h; simp
    | succ b =>
      have := ih (b := b) (by simpa using hb) (by simpa using h)
      cases x <;> simp <;> omega
theorem search_ev (a0 : ByteArray) (a1 : Bool) (a2 a3 : Int) (l4 : List S76) (hl : okP l) (r : Int) (n : Nat) : ∀ (d : Nat) (seen : List Bool) (todo : List Int) (i : Nat), 3 * seen.count false + (todo.length - i) ≤ d → Srch l r n seen todo i →
    ∃ B : Bool, Ev (fun k => rushlightref16_Live.l0 k r seen todo (i : Int) a0 a1 a2 a3 l4 l) B ∧ (B = true ↔ ∃ s : Nat, (s : Int) ∈ outsOf l n ∧ LiveIn l r s) := by
  have h40 := hl.1
  have stop : ∀ (seen : List Bool) (todo : List Int), Srch l r n seen todo todo.length → ∃ B : Bool, Ev (fun k => rushlightref16_Live.l0 k r seen todo (todo.length : Int) a0 a1 a2 a3 l4 l) B ∧ (B = true ↔ ∃ s : Nat, (s : Int) ∈ outsOf l n ∧ LiveIn l r s) := by
    intro seen todo h
    refine ⟨false, Ev.const fun k => ?_, ?_⟩
    · simp only [rushlightref16_Live.l0]
      rw [if_neg (by omega)]
    · refine ⟨fun e => by simp at e, ?_⟩
      rintro ⟨s, hs, hL⟩
      have hs' := h.st _ hs
      have no : ∀ b : Nat, LiveIn l r b → (b : Int) ∈ todo → False := by
        intro b hb
        induction hb with
        | @read b hn hw =>
          intro hm
          exact (h.dn b (by rw [List.take_length]; exact hm)).1 hw
        | @step b s hn hw hs k ih =>
          intro hm
          exact ih ((h.dn b (by rw [List.take_length]; exact hm)).2 hw _ hs)
      exact (no s hL hs').elim
  intro d
  induction d with
  | zero =>
    intro seen todo i hd h
    have := h.hi
    obtain rfl : i = todo.length := by omega
    exact stop seen todo h
  | succ d ih =>
    intro seen todo i hd h
    by_cases hi : i < todo.length
    · obtain ⟨x, hx, _⟩ := drop_at (l := todo) hi
      have hxm := List.mem_of_getElem? hx
      have hxb := h.td x hxm
      obtain ⟨b, rfl⟩ := Int.eq_ofNat_of_zero_le hxb.1
      have hb : b < l.length := by omega
      have hbs : b < seen.length := by rw [h.ls]; exact hb
      have hln := h.ln
      have hgetb := h.sn b hb
      by_cases hs : seen.getD b false = true
      · -- it was seen
        obtain ⟨B, h1, h2⟩ := ih seen todo (i + 1) (by omega) ⟨h.ls, h.td, hi, fun c hc => by
          rw [h.sn c hc, take_mem hx]
          refine ⟨.inl, ?_⟩
          rintro (h' | h')
          · exact h'
          · have : c = b := by omega
            subst this; exact hgetb.1 hs, fun c hc => by
          rcases (take_mem hx).1 hc with h' | h'
          · exact h.dn c h'
          · have : c = b := by omega
            subst this; exact h.dn c (hgetb.1 hs), h.go, h.st, hln⟩
        refine ⟨B, Ev.step (f := fun k => rushlightref16_Live.l0 k r seen todo ((i + 1 : Nat) : Int) a0 a1 a2 a3 l4 l) (fun k => ?_) h1, h2⟩
        simp only [rushlightref16_Live.l0]
        rw [if_pos (by omega), if_pos (by omega), atn hx, if_pos (by omega), if_pos (by omega), atb (show seen[b]? = some true by rw [flow_getD false hbs, hs]), if_pos rfl, next_i (by omega)]
      · have hs0 : seen.getD b false = false := by simpa using hs
        have hnot : (b : Int) ∉ todo.take i := fun h' => hs (hgetb.2 h')
        have hcs := count_set hbs hs0
        have gset : ∀ c : Nat, c < l.length → ((seen.set b true).getD c false = true ↔ (c : Int) ∈ todo.take (i + 1)) := by
          intro c hc
          rw [take_mem hx]
          by_cases e : b = c
          · subst e; rw [getD_set_self hbs]; simp
          · rw [getD_set_ne e, h.sn c hc]
            refine ⟨.inl, ?_⟩
            rintro (h' | h')
            · exact h'
            · exact absurd (by omega : b = c) e
        have hblk := hl.blk hb
        have hw := within_ev (blk l b) hblk r (blk l b).f0.length 0 (by omega)
        rw [List.drop_zero] at hw
        have body : ∀ k, rushlightref16_Live.l0 (k + 1) r seen todo (i : Int) a0 a1 a2 a3 l4 l = (rushlightref16_within.f k (blk l b).f0 (blk l b).f1 (blk l b).f2 (blk l b).f3 (blk l b).f4 0 r).bind fun t369 => (if t369 = 1 then (some true) else (if t369 = 0 then ((rushlightref16_Outs.f k a0 a1 a2 a3 l4 l (b : Int)).bind fun t370 => (rushlightref16_Live.l1 k r (seen.set b true) todo (i : Int) t370 0 a0 a1 a2 a3 l4 l)) else (rushlightref16_Live.l0 k r (seen.set b true) todo ((i + 1 : Nat) : Int) a0 a1 a2 a3 l4 l))) := by
          intro k
          simp only [rushlightref16_Live.l0]
          rw [if_pos (by omega), if_pos (by omega), atn hx, if_pos (by omega), if_pos (by omega), atb (show seen[b]? = some false by rw [flow_getD false hbs, hs0]), if_neg (by simp), Option.bind_some, if_pos (by omega), blk_rd, Int.toNat_natCast, next_i (by omega)]
        by_cases h1 : withinOf (blk l b) (blk l b).f0 r = 1
        · refine ⟨true, Ev.step body (Ev.bind hw ?_), fun _ => h.go b hxm (.read hb h1), fun _ => rfl⟩
          simp only [if_pos h1]; exact Ev.now _
        · by_cases h0 : withinOf (blk l b) (blk l b).f0 r = 0
          · -- on to where it leads
            have hol := outs_len l b
            have hom : ∀ s ∈ outsOf l b, 0 ≤ s ∧ s < (l.length : Int) := fun s hs => outs_mem hs
            have take_app : (todo ++ outsOf l b).take (i + 1) = todo.take (i + 1) := List.take_append_of_le_length (by omega)
            obtain ⟨B, g1, g2⟩ := ih (seen.set b true) (todo ++ outsOf l b) (i + 1) (by rw [List.length_append]; omega) ⟨by rw [List.length_set]; exact h.ls, fun y hy => by
              rcases List.mem_append.1 hy with h' | h'
              · exact h.td y h'
              · exact hom y h', by rw [List.length_append]; omega, fun c hc => by rw [take_app]; exact gset c hc, fun c hc => by
              rw [take_app] at hc
              rcases (take_mem hx).1 hc with h' | h'
              · exact ⟨(h.dn c h').1, fun h2 s hs => List.mem_append_left _ ((h.dn c h').2 h2 s hs)⟩
              · have : c = b := by omega
                subst this; exact ⟨h1, fun _ s hs => List.mem_append_right _ hs⟩, fun c hc hL => by
              rcases List.mem_append.1 hc with h' | h'
              · exact h.go c h' hL
              · exact h.go b hxm (.step hb h0 h' hL), fun s hs => List.mem_append_left _ (h.st s hs), by rw [List.length_append]; omega⟩
            refine ⟨B, Ev.step body (Ev.bind hw ?_), g2⟩
            simp only [if_neg h1, if_pos h0]
            refine Ev.bind (refOuts a0 a1 a2 a3 l4 l b hb) ?_
            -- the inner loop appends
            have app : ∀ (e j : Nat) (t : List Int), j + e = (outsOf l b).length → t.length ≤ todo.length + j → Ev (fun k => rushlightref16_Live.l0 k r (seen.set b true) (t ++ (outsOf l b).drop j) ((i + 1 : Nat) : Int) a0 a1 a2 a3 l4 l) B → Ev (fun k => rushlightref16_Live.l1 k r (seen.set b true) t (i : Int) (outsOf l b) (j : Int) a0 a1 a2 a3 l4 l) B := by
              intro e
              induction e with
              | zero =>
                intro j t hj ht hB
                rw [List.drop_of_length_le (by omega), List.append_nil] at hB
                refine Ev.step (fun k => ?_) hB
                simp only [rushlightref16_Live.l1]
                rw [if_neg (by omega), next_i (by omega)]
              | succ e ih2 =>
                intro j t hj ht hB
                obtain ⟨y, hy, ey⟩ := drop_at (l := outsOf l b) (i := j) (by omega)
                rw [ey] at hB
                refine Ev.step (fun k => ?_) (ih2 (j + 1) (t ++ [y]) (by omega) (by simp; omega) (by rw [List.append_assoc]; exact hB))
                simp only [rushlightref16_Live.l1]
                rw [if_pos (by omega), if_pos (by omega), if_pos (by omega), atn hy, next_i (by omega)]
            exact app (outsOf l b).length 0 todo (by omega) (by omega) (by rw [List.drop_zero]; exact g1)
          · obtain ⟨B, g1, g2⟩ := ih (seen.set b true) todo (i + 1) (by omega) ⟨by rw [List.length_set]; exact h.ls, h.td, hi, gset, fun c hc => by
              rcases (take_mem hx).1 hc with h' | h'
              · exact h.dn c h'
              · have : c = b := by omega
                subst this; exact ⟨h1, fun h2 => absurd h2 h0⟩, h.go, h.st, by omega⟩
            refine ⟨B, Ev.step body (Ev.bind hw ?_), g2⟩
            simp only [if_neg h1, if_neg h0]
            exact g1
    · have := h.hi
      obtain rfl : i = todo.length := by omega
      exact stop seen todo h
/-- THE REFERENCE'S LIVE -/
theorem ref_live (a0 : ByteArray) (a1 : Bool) (a2 a3 : Int) (l4 : List S76) (hl : okP l) (r : Int) (n : Nat) (hn : n < l.length) (i : Nat) (hi : i ≤ (blk l n).f0.length) :
    ∃ B : Bool, Ev (fun k => rushlightref16_Live.f k a0 a1 a2 a3 l4 l (n : Int) (i : Int) r) B ∧ (B = true ↔ evOf ((blk l n).f0.drop i) r = 1 ∨ (evOf ((blk l n).f0.drop i) r = 0 ∧ LiveOut l r n)) := by
  have h40 := hl.1
  have hw := within_ev (blk l n) (hl.blk hn) r ((blk l n).f0.length - i) i (by omega)
  unfold rushlightref16_Live.f
  simp only [if_pos (show (0 : Int) ≤ (n : Int) by omega), if_pos (show (n : Int) < (l.length : Int) by omega), blk_rd, if_pos (show (0 : Int) ≤ (l.length : Int) by omega), Int.toNat_natCast, if_pos (show l.length ≤ 281474976710656 by omega)]
  by_cases hpos : withinOf (blk l n) ((blk l n).f0.drop i) r > 0
  · refine ⟨withinOf (blk l n) ((blk l n).f0.drop i) r == 1, Ev.bind hw (by simp only [if_pos hpos]; exact Ev.now _), ?_⟩
    rw [beq_iff_eq]
    unfold withinOf at hpos ⊢
    by_cases e : evOf ((blk l n).f0.drop i) r = 0
    · rw [if_pos e] at hpos ⊢
      by_cases e2 : endR (blk l n) r
      · rw [if_pos e2]; exact ⟨fun _ => .inr ⟨e, .inl e2⟩, fun _ => rfl⟩
      · rw [if_neg e2] at hpos; omega
    · rw [if_neg e]
      exact ⟨.inl, fun h => h.elim id (fun h => absurd h.1 e)⟩
  · have hev : evOf ((blk l n).f0.drop i) r = 0 ∧ ¬ endR (blk l n) r := by
      unfold withinOf at hpos
      by_cases e : evOf ((blk l n).f0.drop i) r = 0
      · rw [if_pos e] at hpos
        refine ⟨e, fun e2 => ?_⟩
        rw [if_pos e2] at hpos; omega
      · rw [if_neg e] at hpos
        rcases evOf_cases ((blk l n).f0.drop i) r with h | h | h <;> omega
    have hol := outs_len l n
    obtain ⟨B, h1, h2⟩ := search_ev a0 a1 a2 a3 l4 hl r n _ (List.replicate l.length false) (outsOf l n) 0 (Nat.le_refl _) ⟨by simp, fun x hx => outs_mem hx, Nat.zero_le _, fun b hb => by
      rw [List.getD_eq_getElem?_getD, List.getElem?_replicate, if_pos hb]; simp, fun b hb => by simp at hb, fun b hb hL => ⟨b, hb, hL⟩, fun s hs => hs, by simp; omega⟩
    refine ⟨B, Ev.bind hw ?_, ?_⟩
    · simp only [if_neg hpos]
      exact Ev.bind (refOuts a0 a1 a2 a3 l4 l n hn) h1
    · rw [h2]
      constructor
      · intro h; exact .inr ⟨hev.1, .inr h⟩
      · rintro (h | ⟨_, h | h⟩)
        · omega
        · exact absurd h hev.2
        · exact h
end Go.Proofs.Ytppanpboejpmjaa.Mf
