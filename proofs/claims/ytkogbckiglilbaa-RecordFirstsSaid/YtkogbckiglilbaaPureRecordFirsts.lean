/- For any list of records the program keeps the records that the reference keeps, counts the same replays, has the same values and finds the same lists orderly: RecordFirsts answers true. No condition. -/
import Derived.Test.YtkogbckiglilbaaSayRecordFirsts
import Derived.Test.YtkogbckiglilbaaLoops
namespace Go.Proofs.Ytkogbckiglilbaa.Pure
open Go Go.RowKit Go.Proofs.Ytkogbckiglilbaa.All Go.Proofs.Ytkogbckiglilbaa.AllTypes Go.Proofs.Ytkogbckiglilbaa.Math Go.Proofs.YtkogbckiglilbaaW.PrintWords Go.Proofs.YtkogbckiglilbaaW.PrintLast

theorem firsts_loop (f : List S38) (hl : f.length ≤ 1000) : ∀ (d i : Nat), i + d = f.length →
    Ev (fun k => rushlightlaw04_RecordFirsts.l0 k (f.map cv) (f.map cv) (f.map (·.f1)) (i : Int)) true := by
  intro d
  induction d with
  | zero =>
    intro i hi
    refine Ev.step (fun k => by simp only [rushlightlaw04_RecordFirsts.l0]; rw [List.length_map, if_neg (by omega)]) (Ev.bind awake_ev (Ev.now _))
  | succ d ih =>
    intro i hi
    obtain ⟨x, hx, _⟩ := drop_at (l := f) (i := i) (by omega)
    have hw : wrap64 ((i : Int) + 1) = ((i + 1 : Nat) : Int) := by rw [w64 (by omega) (by omega)]; rfl
    have hx1 : (f.map (·.f1))[i]? = some x.f1 := by rw [List.getElem?_map, hx]; rfl
    refine Ev.step (f := fun k => rushlightlaw04_RecordFirsts.l0 k (f.map cv) (f.map cv) (f.map (·.f1)) ((i + 1 : Nat) : Int)) (fun k => ?_) (ih (i + 1) (by omega))
    simp only [rushlightlaw04_RecordFirsts.l0]
    rw [List.length_map, List.length_map, if_pos (by omega), if_pos (by omega), if_pos (by omega), at35 (map_at hx), if_neg (by simp), if_pos (by omega), atn hx1, hw]
    exact if_pos rfl
theorem RecordFirsts : Say.RecordFirsts := by
  intro l ⟨_, hg0⟩
  have hg := good_of hg0
  apply Ev.rounds
  unfold rushlightlaw04_RecordFirsts.f
  by_cases hlen : (l.length : Int) > 300
  · simp only [if_pos hlen]
    exact Ev.bind awake_ev (Ev.now _)
  · simp only [if_neg hlen]
    have hn := go_length l []
    refine Ev.bind (ref_ev (by omega)) ?_
    rw [first_eq (by omega) hg]
    simp only [Option.bind_some]
    refine Ev.bind (ref_ev (by omega)) ?_
    refine Ev.bind (reffirst_ev (by omega)) ?_
    refine Ev.bind (values_ev (by omega) hg) ?_
    rw [replays_eq (by omega) hg]
    simp only [List.length_map, if_true, Option.bind_some]
    rw [w64 (by omega) (by omega)]
    simp only [if_true]
    refine Ev.bind (orderly_ev (by omega) hg) (Ev.bind (reforderly_ev (by omega) hg) ?_)
    simp only [bne_self_eq_false]
    exact Ev.step (fun k => by simp only [rushlightlaw04_RecordFirsts.j0, Bool.false_eq_true, if_false]; rfl) (firsts_loop (record_First.go [] l) (by omega) (record_First.go [] l).length 0 (by omega))

end Go.Proofs.Ytkogbckiglilbaa.Pure
