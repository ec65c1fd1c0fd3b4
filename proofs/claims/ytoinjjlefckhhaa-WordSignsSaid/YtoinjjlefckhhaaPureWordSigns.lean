/- For any word and any number of bits the signed number of these bits is that of the reference, and the high and the low part of any word are the whole word: WordSigns answers true. No condition. -/
import Derived.Test.YtoinjjlefckhhaaMath
namespace Go.Proofs.Ytoinjjlefckhhaa.Pure
open Go.RowKit Go.Proofs.Ytoinjjlefckhhaa.All Go.Proofs.Ytoinjjlefckhhaa.Math Go.Proofs.YtoinjjlefckhhaaW.PrintWords Go.Proofs.YtoinjjlefckhhaaW.PrintLast Go.Proofs.YtoinjjlefckhhaaW.PrintMore

theorem pow_le {i : Nat} (h : i ≤ 32) : (0 : Int) < 2 ^ i ∧ (2 : Int) ^ i ≤ 4294967296 := by
  have h1 : (2 : Nat) ^ i ≤ 2 ^ 32 := Nat.pow_le_pow_right (by decide) h
  have h2 : 0 < (2 : Nat) ^ i := Nat.two_pow_pos i
  have e : ((2 ^ i : Nat) : Int) = (2 : Int) ^ i := by simp
  omega
/-- the lowest bits of a word as a signed number -/
def low (a : Int) (n : Nat) : Int := if a % 2 ^ n ≥ 2 ^ n / 2 then a % 2 ^ n - 2 ^ n else a % 2 ^ n
theorem sign_loop (a : Int) (a0 : 0 ≤ a) (a1 : a < 4294967296) (n : Nat) (h1 : 1 ≤ n) (hn : n ≤ 31) :
    ∀ (d i k : Nat), i + d = n → d < k → rushlightref01_Sign.l0 k a n (2 ^ i) i = some (low a n % 4294967296) := by
  intro d
  induction d with
  | zero =>
    intro i k hi hk
    obtain ⟨k, rfl⟩ : ∃ m, k = m + 1 := ⟨k - 1, by omega⟩
    obtain rfl : i = n := by omega
    obtain ⟨p0, p1⟩ := pow_le (i := i) (by omega)
    simp only [rushlightref01_Sign.l0]
    have r0 : 0 ≤ a % 2 ^ i := Int.emod_nonneg _ (by omega)
    have r1 : a % 2 ^ i < 2 ^ i := Int.emod_lt_of_pos _ p0
    rw [if_neg (by omega), if_neg (by omega), w64 (a := a) (by omega) (by omega), Int.tmod_eq_emod_of_nonneg a0, Int.tdiv_eq_ediv_of_nonneg (by omega)]
    unfold low
    rw [w64 (a := 2 ^ i / 2) (by omega) (by omega), w64 (a := a % 2 ^ i - 2 ^ i) (by omega) (by omega), cut_eq (by omega) (by omega), cut_eq (by omega) (by omega)]
    simp only [Option.bind_some]
    split <;> rfl
  | succ d ih =>
    intro i k hi hk
    obtain ⟨k, rfl⟩ : ∃ m, k = m + 1 := ⟨k - 1, by omega⟩
    simp only [rushlightref01_Sign.l0]
    obtain ⟨p0, p1⟩ := pow_le (i := i) (by omega)
    rw [if_pos (by omega), w64 (a := 2 * 2 ^ i) (by omega) (by omega), w64 (a := (i : Int) + 1) (by omega) (by omega)]
    have := ih (i + 1) k (by omega) (by omega)
    rw [Int.pow_succ, Int.mul_comm] at this
    exact this
theorem sign_ref {a : Int} (a0 : 0 ≤ a) (a1 : a < 4294967296) (b : Int) :
    rushlightref01_Sign.f 40 a b = some (if b < 1 ∨ b > 31 then a else low a b.toNat % 4294967296) := by
  unfold rushlightref01_Sign.f
  by_cases h1 : b < 1
  · rw [if_pos h1, if_pos (.inl h1)]; rfl
  · rw [if_neg h1]
    by_cases h2 : b > 31
    · rw [if_pos (.inr h2), decide_eq_true h2]; rfl
    · rw [if_neg (by omega), decide_eq_false h2]
      simp only [rushlightref01_Sign.j0, Bool.false_eq_true, if_false]
      have := sign_loop a a0 a1 b.toNat (by omega) (by omega) b.toNat 0 39 (by omega) (by omega)
      rw [show ((b.toNat : Nat) : Int) = b by omega] at this
      simpa using this
theorem low_shift (a : Int) (n : Nat) (h1 : 1 ≤ n) (hn : n ≤ 31) :
    wrap32 (a * 2 ^ (32 - n) % 4294967296) / 2 ^ (32 - n) = low a n := by
  have : n = 1 ∨ n = 2 ∨ n = 3 ∨ n = 4 ∨ n = 5 ∨ n = 6 ∨ n = 7 ∨ n = 8 ∨ n = 9 ∨ n = 10 ∨ n = 11 ∨ n = 12 ∨ n = 13 ∨ n = 14 ∨ n = 15 ∨ n = 16 ∨ n = 17 ∨ n = 18 ∨ n = 19 ∨ n = 20 ∨ n = 21 ∨ n = 22 ∨ n = 23 ∨ n = 24 ∨ n = 25 ∨ n = 26 ∨ n = 27 ∨ n = 28 ∨ n = 29 ∨ n = 30 ∨ n = 31 := by omega
  rcases this with rfl | rfl | rfl | rfl | rfl | rfl | rfl | rfl | rfl | rfl | rfl | rfl | rfl | rfl | rfl | rfl | rfl | rfl | rfl | rfl | rfl | rfl | rfl | rfl | rfl | rfl | rfl | rfl | rfl | rfl | rfl <;> (unfold low wrap32; simp only [Nat.reduceSub, Int.reducePow, Int.reduceDiv]; split <;> omega)
theorem sign_prog (a : Int) (b : Int) :
    word_Sign.f a b = some (if b < 1 ∨ b > 31 then a else low a b.toNat % 4294967296) := by
  unfold word_Sign.f
  by_cases h1 : b < 1
  · rw [if_pos h1, if_pos (.inl h1)]
  · rw [if_neg h1]
    by_cases h2 : b > 31
    · rw [if_pos h2, if_pos (Or.inr h2)]
    · rw [if_neg (show ¬ (b < 1 ∨ b > 31) by omega), if_neg h2, w64 (by omega) (by omega), if_pos (by omega)]
      unfold shl shr
      have m : min (32 - b).toNat IntKind.u32.bits = 32 - b.toNat := by simp only [IntKind.bits]; omega
      have m2 : min (32 - b).toNat IntKind.i32.bits = 32 - b.toNat := by simp only [IntKind.bits]; omega
      rw [m, m2, IntKind.wrap_u32, low_shift a b.toNat (by omega) (by omega)]
theorem WordSigns : rushlightlaw01_WordSigns.Pure := by
  intro a b wa _
  obtain ⟨a0, a1⟩ := u32_bd wa
  refine ⟨40, ?_⟩
  unfold rushlightlaw01_WordSigns.f word_Parts.f word_Whole.f
  rw [awake_true, sign_prog a, sign_prog a, sign_ref a0 a1, sign_ref a0 a1]
  simp only [Option.bind_some, if_true]
  have e : (if (12 : Int) < 1 ∨ (12 : Int) > 31 then a else low a (12 : Int).toNat % 4294967296) = low a 12 % 4294967296 := rfl
  rw [e]
  have lo : low a 12 = if a % 4096 ≥ 2048 then a % 4096 - 4096 else a % 4096 := rfl
  rw [Int.tmod_eq_emod_of_nonneg (by omega), if_pos (by split at lo <;> omega)]
  simp
  omega

end Go.Proofs.Ytoinjjlefckhhaa.Pure
