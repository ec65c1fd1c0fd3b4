/- For any list of records: if it is orderly, its first records have the numbers 0, 1, 2 and so on: RecordNumbers answers true. No condition. -/
import Derived.Test.YtkogbckiglilbaaSayRecordNumbers
import Derived.Test.YtkogbckiglilbaaLoops
namespace Go.Proofs.Ytkogbckiglilbaa.Pure
open Go Go.RowKit Go.Proofs.Ytkogbckiglilbaa.All Go.Proofs.Ytkogbckiglilbaa.AllTypes Go.Proofs.Ytkogbckiglilbaa.Math Go.Proofs.YtkogbckiglilbaaW.PrintWords Go.Proofs.YtkogbckiglilbaaW.PrintLast

theorem numbers_loop (f : List S38) (hl : f.length ≤ 1000) (hf : ∀ (i : Nat) r, f[i]? = some r → r.f0 = ((i : Nat) : Int)) : ∀ (d i : Nat), i + d = f.length →
    Ev (fun k => rushlightlaw04_RecordNumbers.l0 k f (i : Int)) true := by
  intro d
  induction d with
  | zero =>
    intro i hi
    refine Ev.step (fun k => by simp only [rushlightlaw04_RecordNumbers.l0]; rw [if_neg (by omega)]) (Ev.bind awake_ev (Ev.now _))
  | succ d ih =>
    intro i hi
    obtain ⟨x, hx, _⟩ := drop_at (l := f) (i := i) (by omega)
    have hw : wrap64 ((i : Int) + 1) = ((i + 1 : Nat) : Int) := by rw [w64 (by omega) (by omega)]; rfl
    refine Ev.step (f := fun k => rushlightlaw04_RecordNumbers.l0 k f ((i + 1 : Nat) : Int)) (fun k => ?_) (ih (i + 1) (by omega))
    simp only [rushlightlaw04_RecordNumbers.l0]
    rw [if_pos (by omega), if_pos (by omega), at38 hx, hf i x hx, if_pos (by omega), hw]
theorem RecordNumbers : Say.RecordNumbers := by
  intro l ⟨_, hg0⟩
  have hg := good_of hg0
  apply Ev.rounds
  unfold rushlightlaw04_RecordNumbers.f
  by_cases hlen : (l.length : Int) > 300
  · simp only [if_pos hlen]
    exact Ev.step (fun k => by simp only [rushlightlaw04_RecordNumbers.j0, if_true]) (Ev.bind awake_ev (Ev.now _))
  · simp only [if_neg hlen]
    refine Ev.bind (orderly_ev (by omega) hg) ?_
    cases hr : run [] l with
    | none => exact Ev.step (fun k => by simp only [rushlightlaw04_RecordNumbers.j0, Option.isSome_none, Bool.not_false, if_true]) (Ev.bind awake_ev (Ev.now _))
    | some h =>
      have hn := go_length l []
      refine Ev.step (f := fun k => rushlightlaw04_RecordNumbers.l0 k (record_First.go [] l) ((0 : Nat) : Int)) (fun k => ?_) (numbers_loop _ (by omega) ?_ (record_First.go [] l).length 0 (by omega))
      · simp only [rushlightlaw04_RecordNumbers.j0, Option.isSome_some, Bool.not_true, Bool.false_eq_true, if_false]
        rw [first_eq (by omega) hg]; rfl
      · intro i r hi
        have := run_numbers l [] h [] hg hr (fun x => by simp; try omega) i r hi
        simpa using this

end Go.Proofs.Ytkogbckiglilbaa.Pure
