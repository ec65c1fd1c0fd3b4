import Derived.Test.YtppanpboejpmjaaSayFrameLays
import Derived.Test.YtppanpboejpmjaaMathLay
namespace Go.Proofs.Ytppanpboejpmjaa.Math
open Go Go.RowKit Go.Proofs.Ytppanpboejpmjaa.Tr Go.Proofs.Ytppanpboejpmjaa.TrTypes Go.Proofs.YtppanpboejpmjaaW.PrintWords Go.Proofs.YtppanpboejpmjaaW.PrintLast
theorem awake25_ev : Ev (fun k => rushlightlaw25_awake.f k) true :=
  Ev.of rushlightlaw25_awake.mono (k := 40) (by decide +kernel)
theorem same_loop (l : List Int) (hl : l.length ≤ 100000) : ∀ (d i : Nat), i + d = l.length → Ev (fun k => rushlightlaw25_same.l0 k l l (i : Int)) true := by
  intro d
  induction d with
  | zero =>
    intro i hi
    refine Ev.const fun k => ?_
    simp only [rushlightlaw25_same.l0]
    rw [if_neg (by omega)]
  | succ d ih =>
    intro i hi
    refine Ev.step (fun k => ?_) (ih (i + 1) (by omega))
    simp only [rushlightlaw25_same.l0]
    rw [if_pos (by omega), if_pos (by omega), if_pos (by omega), if_pos trivial, next_i (n := l.length) (by omega) (by omega)]
theorem same_ev {l : List Int} (hl : l.length ≤ 100000) : Ev (fun k => rushlightlaw25_same.f k l l) true := by
  refine Ev.congr (fun k => ?_) (same_loop l hl l.length 0 (by omega))
  simp only [rushlightlaw25_same.f, if_true, Int.natCast_zero]
theorem laid_len (l : List S76) (s : List S80) (a3 n : Int) (hl : l.length ≤ 60) (hz : l.all okSize = true) : (laid l s a3 n).2.1.length ≤ 12 ∧ (laid l s a3 n).2.2.2.1.length ≤ 60 := by
  have hlen := saved_length s
  obtain ⟨p1, p2, p3, p4⟩ := places_at l hz [] 0 (Int.le_refl _) (by simp)
  unfold laid
  split
  · simp
  · split
    · split
      · simp
      · split
        · simp
        · simp [p1]; omega
    · simp
end Go.Proofs.Ytppanpboejpmjaa.Math
namespace Go.Proofs.Ytppanpboejpmjaa.Pure
open Go.RowKit Go.Proofs.Ytppanpboejpmjaa.Tr Go.Proofs.Ytppanpboejpmjaa.TrTypes Go.Proofs.YtppanpboejpmjaaW.PrintWords Go.Proofs.YtppanpboejpmjaaW.PrintLast Go.Proofs.Ytppanpboejpmjaa.Math
theorem FrameLays : Say.FrameLays := by
  intro x0 x1 x2 _ _ _
  refine Ev.rounds (g := fun k => rushlightlaw25_FrameLays.f k x0.f0 x0.f1 x0.f2 x0.f3 x0.f4 x0.f5 x1 x2) ?_
  unfold rushlightlaw25_FrameLays.f
  refine Ev.bind (few_ev _ _ _ _ _ _ _) ?_
  by_cases h : fewB x0.f4 x1 = true
  · simp only [if_pos h]
    simp only [fewB, Bool.and_eq_true, decide_eq_true_eq] at h
    obtain ⟨⟨⟨h1, h2⟩, h3⟩, h4⟩ := h
    obtain ⟨l1, l2⟩ := laid_len x0.f4 x1 x0.f3 x2 h1 h3
    refine Ev.bind (lay_ev _ _ _ _ _ _ h1 h2 h3 h4) (Ev.bind (reflay_ev _ _ _ _ _ _ h1 h2 h3) (Ev.bind awake25_ev ?_))
    simp only [if_true]
    refine Ev.bind (same_ev (by omega)) ?_
    simp only [if_true]
    exact Ev.bind (same_ev (by omega)) (Ev.now _)
  · simp only [if_neg h]
    exact Ev.bind awake25_ev (Ev.now _)
end Go.Proofs.Ytppanpboejpmjaa.Pure
