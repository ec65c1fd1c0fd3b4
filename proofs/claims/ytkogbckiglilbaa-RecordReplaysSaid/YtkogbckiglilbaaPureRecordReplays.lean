/- For any list of records a replay more, anywhere behind its first, changes nothing, and one with another value makes an orderly list no longer orderly: RecordReplays answers true. No condition. -/
import Derived.Test.YtkogbckiglilbaaSayRecordReplays
import Derived.Test.YtkogbckiglilbaaLoops
namespace Go.Proofs.Ytkogbckiglilbaa.Pure
open Go Go.RowKit Go.Proofs.Ytkogbckiglilbaa.All Go.Proofs.Ytkogbckiglilbaa.AllTypes Go.Proofs.Ytkogbckiglilbaa.Math Go.Proofs.YtkogbckiglilbaaW.PrintWords Go.Proofs.YtkogbckiglilbaaW.PrintLast

/-- what is there is met: a list, a replay's place, where it is put, its other value -/
structure Put where
  l : List S38
  from_ : Nat
  upto_ : Nat
  val : Int
  r : S38
  len : l.length ≤ 300
  good : Math.Good l
  lt : from_ < upto_
  le : upto_ ≤ l.length
  at_ : l[from_]? = some r
namespace Put
def more (p : Put) (x : S38) : List S38 := p.l.take p.upto_ ++ x :: p.l.drop p.upto_
theorem more_length (p : Put) (x : S38) : (p.more x).length = p.l.length + 1 := by
  have := p.le
  unfold more; rw [List.length_append, List.length_take, List.length_cons, List.length_drop]; omega
theorem inside (p : Put) : p.r ∈ p.l.take p.upto_ := by
  apply List.mem_of_getElem? (i := p.from_)
  rw [List.getElem?_take_of_lt p.lt]; exact p.at_
theorem more_good (p : Put) (x : S38) (hx : x.f0 = p.r.f0) : Math.Good (p.more x) := by
  intro y hy
  rcases List.mem_append.1 hy with h | h
  · exact p.good y (List.mem_of_mem_take h)
  · rcases List.mem_cons.1 h with h | h
    · rw [h, hx]; exact p.good _ (List.mem_of_mem_take p.inside)
    · exact p.good y (List.mem_of_mem_drop h)
theorem more_go (p : Put) (x : S38) (hx : x.f0 = p.r.f0) : record_First.go [] (p.more x) = record_First.go [] p.l := by
  unfold more
  rw [go_more _ x _ _ (.inr ⟨p.r, p.inside, hx.symm⟩), List.take_append_drop]
theorem more_run (p : Put) (x : S38) (hx : x.f0 = p.r.f0) (h : (run [] p.l).isSome = true) : (run [] (p.more x)).isSome = decide (x.f1 = p.r.f1) :=
  run_more _ _ x p.r [] (fun y hy => p.good y (List.mem_of_mem_take hy)) p.inside hx (by rw [List.take_append_drop]; exact h)
/-- the record with the other value -/
def other (p : Put) : S38 := ⟨p.r.f0, p.val⟩

theorem last_loop (p : Put) : ∀ (d i : Nat), i + d = (record_First.go [] p.l).length →
    Ev (fun k => rushlightlaw04_RecordReplays.l2 k p.l (p.from_ : Int) p.val (p.more p.r) (p.more p.other) (record_First.go [] p.l) (record_First.go [] p.l) (i : Int)) true := by
  have hn := go_length p.l []
  have hle := p.len
  intro d
  induction d with
  | zero =>
    intro i hi
    refine Ev.step (fun k => by simp only [rushlightlaw04_RecordReplays.l2]; rw [if_neg (by omega)]) ?_
    refine Ev.bind (orderly_ev (by omega) p.good) ?_
    cases hr : (run [] p.l).isSome with
    | false =>
      simp only [Bool.false_eq_true, if_false]
      exact Ev.bind awake_ev (Ev.now _)
    | true =>
      simp only [if_true]
      refine Ev.bind awake_ev ?_
      simp only [if_true]
      refine Ev.bind (orderly_ev (by rw [p.more_length]; omega) (p.more_good _ rfl)) ?_
      rw [p.more_run p.r rfl hr]
      simp only [decide_true, if_true]
      refine Ev.bind (orderly_ev (by rw [p.more_length]; omega) (p.more_good p.other rfl)) ?_
      rw [p.more_run p.other rfl hr]
      have h1 := p.lt
      have h2 := p.le
      have e : (if (0 : Int) ≤ (p.from_ : Int) then (if (p.from_ : Int) < (p.l.length : Int) then (some (decide (p.other.f1 = p.r.f1) == (p.val == (rd_T38 p.l (p.from_ : Int)).f1))) else none) else none) = some true := by
        rw [if_pos (by omega), if_pos (by omega), at38 p.at_]
        congr 1
        show (decide (p.val = p.r.f1) == (p.val == p.r.f1)) = true
        rw [beq_iff_eq]; rfl
      rw [e]; exact Ev.now _
  | succ d ih =>
    intro i hi
    obtain ⟨x, hx, _⟩ := drop_at (l := record_First.go [] p.l) (i := i) (by omega)
    have hw : wrap64 ((i : Int) + 1) = ((i + 1 : Nat) : Int) := by rw [w64 (by omega) (by omega)]; rfl
    refine Ev.step (fun k => ?_) (ih (i + 1) (by omega))
    simp only [rushlightlaw04_RecordReplays.l2]
    rw [if_pos (by omega), if_pos (by omega), if_pos (by omega), if_neg (by simp), hw]
theorem tail_loop (p : Put) : ∀ (d i : Nat), i + d = p.l.length → p.upto_ ≤ i →
    Ev (fun k => rushlightlaw04_RecordReplays.l1 k p.l (p.from_ : Int) p.val (p.l.take p.upto_ ++ p.r :: (p.l.drop p.upto_).take (i - p.upto_)) (p.l.take p.upto_ ++ p.other :: (p.l.drop p.upto_).take (i - p.upto_)) (i : Int)) true := by
  have hn := go_length p.l []
  have hle := p.len
  have hto := p.le
  have hlen : ∀ (x : S38) (n : Nat), (p.l.take p.upto_ ++ x :: (p.l.drop p.upto_).take n).length ≤ 302 := by
    intro x n
    rw [List.length_append, List.length_take, List.length_cons, List.length_take, List.length_drop]; omega
  intro d
  induction d with
  | zero =>
    intro i hi hti
    have e : ∀ x, p.l.take p.upto_ ++ x :: (p.l.drop p.upto_).take (i - p.upto_) = p.more x := fun x => by
      unfold more; rw [List.take_of_length_le (l := p.l.drop p.upto_) (by rw [List.length_drop]; omega)]
    rw [e, e]
    refine Ev.step (fun k => by
      simp only [rushlightlaw04_RecordReplays.l1]
      rw [if_neg (by omega), first_eq (by omega) p.good, first_eq (by rw [p.more_length]; omega) (p.more_good _ rfl), replays_eq (by rw [p.more_length]; omega) (p.more_good _ rfl), replays_eq (by omega) p.good, p.more_go _ rfl]) ?_
    simp only [Option.bind_some, if_true]
    have e2 : (((p.more p.r).length : Int) - ((record_First.go [] p.l).length : Int) != wrap64 ((p.l.length : Int) - ((record_First.go [] p.l).length : Int) + 1)) = false := by
      rw [bne_eq_false_iff_eq, p.more_length, w64 (by omega) (by omega)]; omega
    rw [e2]
    exact Ev.step (fun k => by simp only [rushlightlaw04_RecordReplays.j3, Bool.false_eq_true, if_false]; rfl) (p.last_loop _ 0 (Nat.zero_add _))
  | succ d ih =>
    intro i hi hti
    obtain ⟨x, hx, ex⟩ := drop_at (l := p.l) (i := i) (by omega)
    have hw : wrap64 ((i : Int) + 1) = ((i + 1 : Nat) : Int) := by rw [w64 (by omega) (by omega)]; rfl
    have e : ∀ y, p.l.take p.upto_ ++ y :: (p.l.drop p.upto_).take (i + 1 - p.upto_) = (p.l.take p.upto_ ++ y :: (p.l.drop p.upto_).take (i - p.upto_)) ++ [x] := fun y => by
      have h1 : i + 1 - p.upto_ = (i - p.upto_) + 1 := by omega
      have h2 : (p.l.drop p.upto_)[i - p.upto_]? = some x := by rw [List.getElem?_drop]; rw [show p.upto_ + (i - p.upto_) = i by omega]; exact hx
      obtain ⟨h3, h4⟩ := List.getElem?_eq_some_iff.1 h2
      rw [h1, List.take_succ_eq_append_getElem h3, h4, List.append_assoc]; rfl
    refine Ev.step (fun k => ?_) (ih (i + 1) (by omega) (by omega))
    have l1 := hlen p.r (i - p.upto_)
    have l2 := hlen p.other (i - p.upto_)
    simp only [rushlightlaw04_RecordReplays.l1]
    rw [if_pos (by omega), if_pos (by omega), if_pos (by omega), if_pos (by omega), at38 hx, hw, e, e]
theorem head_loop (p : Put) : ∀ (d i : Nat), i + d = p.upto_ →
    Ev (fun k => rushlightlaw04_RecordReplays.l0 k p.l (p.from_ : Int) (p.upto_ : Int) p.val (p.l.take i) (p.l.take i) (i : Int)) true := by
  have hle := p.len
  have hto := p.le
  have hlt := p.lt
  have hlen : ∀ n : Nat, (p.l.take n).length ≤ 300 := by
    intro n
    rw [List.length_take]; omega
  intro d
  induction d with
  | zero =>
    intro i hi
    obtain rfl : i = p.upto_ := by omega
    have l1 := hlen p.upto_
    refine Ev.step (f := fun k => rushlightlaw04_RecordReplays.l1 k p.l (p.from_ : Int) p.val (p.l.take p.upto_ ++ [p.r]) (p.l.take p.upto_ ++ [p.other]) (p.upto_ : Int)) (fun k => ?_) ?_
    · simp only [rushlightlaw04_RecordReplays.l0]
      rw [if_neg (by omega), if_pos (by omega), if_pos (by omega), if_pos (by omega), if_pos (by omega), at38 p.at_]; rfl
    · have := p.tail_loop _ p.upto_ (Nat.add_sub_cancel' hto) (Nat.le_refl _)
      rw [Nat.sub_self] at this
      exact this
  | succ d ih =>
    intro i hi
    obtain ⟨x, hx, ex⟩ := drop_at (l := p.l) (i := i) (by omega)
    have hw : wrap64 ((i : Int) + 1) = ((i + 1 : Nat) : Int) := by rw [w64 (by omega) (by omega)]; rfl
    obtain ⟨h3, h4⟩ := List.getElem?_eq_some_iff.1 hx
    have e : p.l.take (i + 1) = p.l.take i ++ [x] := by rw [List.take_succ_eq_append_getElem h3, h4]
    refine Ev.step (fun k => ?_) (ih (i + 1) (by omega))
    have l1 := hlen i
    simp only [rushlightlaw04_RecordReplays.l0]
    rw [if_pos (by omega), if_pos (by omega), if_pos (by omega), if_pos (by omega), if_pos (by omega), at38 hx, hw, e]
end Put
theorem RecordReplays : Say.RecordReplays := by
  intro x ⟨⟨_, hg0⟩, _⟩
  have hg := good_of hg0
  apply Ev.rounds
  unfold rushlightlaw04_RecordReplays.f
  have out : ∀ b : Bool, b = true → Ev (fun k => rushlightlaw04_RecordReplays.j0 k x.f0 x.f1 x.f2 x.f3 b) true := by
    intro b hb
    subst hb
    exact Ev.step (fun k => by simp only [rushlightlaw04_RecordReplays.j0, if_true]) (Ev.bind awake_ev (Ev.now _))
  by_cases h1 : (x.f0.length : Int) > 300
  · simp only [if_pos h1]; exact out true rfl
  · simp only [if_neg h1]
    by_cases h2 : x.f1 < 0
    · simp only [if_pos h2]; exact out true rfl
    · simp only [if_neg h2]
      by_cases h3 : x.f1 ≥ x.f2
      · simp only [if_pos h3]; exact out true rfl
      · simp only [if_neg h3]
        by_cases h4 : x.f2 > (x.f0.length : Int)
        · exact out _ (decide_eq_true h4)
        · simp only [decide_eq_false h4]
          have hl : x.f1.toNat < x.f0.length := by omega
          obtain ⟨p, e1, e2, e3, e4⟩ : ∃ p : Put, p.l = x.f0 ∧ (p.from_ : Int) = x.f1 ∧ (p.upto_ : Int) = x.f2 ∧ p.val = x.f3 :=
            ⟨⟨x.f0, x.f1.toNat, x.f2.toNat, x.f3, x.f0[x.f1.toNat], by omega, hg, by omega, by omega, List.getElem?_eq_getElem hl⟩, rfl, by show ((x.f1.toNat : Nat) : Int) = x.f1; omega, by show ((x.f2.toNat : Nat) : Int) = x.f2; omega, rfl⟩
          rw [← e1, ← e2, ← e3, ← e4]
          exact Ev.step (fun k => by simp only [rushlightlaw04_RecordReplays.j0, Bool.false_eq_true, if_false]; rfl) (p.head_loop _ 0 (Nat.zero_add _))

end Go.Proofs.Ytkogbckiglilbaa.Pure
