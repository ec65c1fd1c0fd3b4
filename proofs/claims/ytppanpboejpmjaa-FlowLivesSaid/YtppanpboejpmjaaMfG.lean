/- The law FlowLives: the walk and the plain law joined. -/
import Derived.Test.YtppanpboejpmjaaMfE
import Derived.Test.YtppanpboejpmjaaFlowO
set_option linter.all false
namespace Go.Proofs.Ytppanpboejpmjaa.Mf
open Go Go.RowKit Go.Proofs.Ytppanpboejpmjaa.Tr Go.Proofs.YtppanpboejpmjaaW.PrintWords Go.Proofs.YtppanpboejpmjaaW.PrintLast

theorem Ev.all {α : Type} {f : Nat → Nat → Option α} {g : Nat → α} : ∀ n : Nat, (∀ i, i < n → Ev (f i) (g i)) → ∃ K, ∀ i, i < n → ∀ k, K ≤ k → f i k = some (g i)
  | 0, _ => ⟨0, fun i hi => by omega⟩
  | n + 1, h => by
    obtain ⟨K, hK⟩ := Ev.all n (fun i hi => h i (by omega))
    obtain ⟨K2, hK2⟩ := h n (by omega)
    refine ⟨max K K2, fun i hi k hk => ?_⟩
    by_cases e : i < n
    · exact hK i e k (by omega)
    · obtain rfl : i = n := by omega
      exact hK2 k (by omega)
theorem Ev.all2 {α : Type} {f : Nat → Nat → Nat → Option α} {g : Nat → Nat → α} (n m : Nat) (h : ∀ i r, i < n → r < m → Ev (f i r) (g i r)) : ∃ K, ∀ i r, i < n → r < m → ∀ k, K ≤ k → f i r k = some (g i r) := by
  have h1 : ∀ n, (∀ i r, i < n → r < m → Ev (f i r) (g i r)) → ∃ K, ∀ i r, i < n → r < m → ∀ k, K ≤ k → f i r k = some (g i r) := by
    intro n
    induction n with
    | zero => intro _; exact ⟨0, fun i r hi => by omega⟩
    | succ n ih =>
      intro h
      obtain ⟨K, hK⟩ := ih (fun i r hi hr => h i r (by omega) hr)
      obtain ⟨K2, hK2⟩ := Ev.all (f := f n) (g := g n) m (fun r hr => h n r (by omega) hr)
      refine ⟨max K K2, fun i r hi hr k hk => ?_⟩
      by_cases e : i < n
      · exact hK i r e hr k (by omega)
      · obtain rfl : i = n := by omega
        exact hK2 r hr k (by omega)
  exact h1 n h
theorem lives_all (a0 : ByteArray) (a1 : Bool) (a2 a3 : Int) (l4 : List S76) (l5 : List S45) (h : a3 ≤ 30 ∧ law_okP l5) : lives_ok a0 a1 a2 a3 l4 l5 := by
  obtain ⟨ha3, hl0⟩ := h
  have hl : okP l5 := hl0
  obtain ⟨m, hm⟩ : ∃ m, (max a3 0).toNat = m := ⟨_, rfl⟩
  obtain ⟨I, O, hE, lI, lO, rO, hI, hO⟩ := live_ev (m := m) a0 a1 a2 a3 l4 hl (by omega) hm
  obtain ⟨k1, hk1⟩ := hE.rounds
  have e1 : ∀ i r : Nat, i < l5.length → r < m → Ev (fun k => rushlightref16_Live.f k a0 a1 a2 a3 l4 l5 (i : Int) 0 (r : Int)) ((I.getD i []).getD r false) := by
    intro i r hi hr
    obtain ⟨B, h1, h2⟩ := ref_live a0 a1 a2 a3 l4 hl (r : Int) i hi 0 (Nat.zero_le _)
    rw [List.drop_zero, ← live_iff hi, ← hI i r hi hr] at h2
    have : B = get I i r := by cases hB : get I i r <;> cases B <;> simp [hB] at h2 ⊢
    rw [this] at h1; exact h1
  have e2 : ∀ i r : Nat, i < l5.length → r < m → Ev (fun k => rushlightref16_Live.f k a0 a1 a2 a3 l4 l5 (i : Int) ((rd_T45 l5 (i : Int)).f0.length : Int) (r : Int)) ((O.getD i []).getD r false) := by
    intro i r hi hr
    rw [blk_rd]
    obtain ⟨B, h1, h2⟩ := ref_live a0 a1 a2 a3 l4 hl (r : Int) i hi (blk l5 i).f0.length (Nat.le_refl _)
    rw [List.drop_of_length_le (Nat.le_refl _)] at h2
    have h3 : B = true ↔ get O i r = true := by
      rw [h2, hO i r hi hr]; simp [evOf]
    have : B = get O i r := by cases hB : get O i r <;> cases B <;> simp [hB] at h3 ⊢
    rw [this] at h1; exact h1
  obtain ⟨K1, hK1⟩ := Ev.all2 (f := fun i r k => rushlightref16_Live.f k a0 a1 a2 a3 l4 l5 (i : Int) 0 (r : Int)) (g := fun i r => (I.getD i []).getD r false) _ _ e1
  obtain ⟨K2, hK2⟩ := Ev.all2 (f := fun i r k => rushlightref16_Live.f k a0 a1 a2 a3 l4 l5 (i : Int) ((rd_T45 l5 (i : Int)).f0.length : Int) (r : Int)) (g := fun i r => (O.getD i []).getD r false) _ _ e2
  exact ⟨k1, max K1 K2, m, I, O, by omega, by omega, hl.1, hk1, lI, lO, fun i r hi hr => hK1 i r hi hr _ (by omega), fun i r hi hr => hK2 i r hi hr _ (by omega)⟩
theorem flowLives (a0 : ByteArray) (a1 : Bool) (a2 a3 : Int) (A4 : Option Addr) (c4 : Nat) (l4 : List S76) (A5 : Option Addr) (c5 : Nat) (l5 : List S45) (w : World)
    (hr4 : Kd.C k76 w A4 l4.length l4) (hc4 : l4.length ≤ c4) (hr5 : Kd.C k45 w A5 l5.length l5) (hc5 : l5.length ≤ c5) :
    Calls Try.prog 4 #[.agg #[.string a0, .bool a1, .int .i64 a2, .int .i64 a3, .slice A4 l4.length c4, .slice A5 l5.length c5]] w fun e w' => e = .returned (.bool true) ∧ Below w.heap.size w w' :=
  flow_FlowLives.walk a0 a1 a2 a3 A4 c4 l4 A5 c5 l5 w hr4 hc4 hr5 hc5 (lives_all a0 a1 a2 a3 l4 l5)
end Go.Proofs.Ytppanpboejpmjaa.Mf
