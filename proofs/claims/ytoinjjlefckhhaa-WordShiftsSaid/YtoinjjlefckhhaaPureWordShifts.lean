/- For any word and any number of places the shifts of the program are those of the reference: WordShifts answers true. No condition. -/
import Derived.Test.YtoinjjlefckhhaaMath
namespace Go.Proofs.Ytoinjjlefckhhaa.Pure
open Go.RowKit Go.Proofs.Ytoinjjlefckhhaa.All Go.Proofs.Ytoinjjlefckhhaa.Math Go.Proofs.YtoinjjlefckhhaaW.PrintWords Go.Proofs.YtoinjjlefckhhaaW.PrintLast Go.Proofs.YtoinjjlefckhhaaW.PrintMore

theorem pow_le {i : Nat} (h : i ≤ 32) : (0 : Int) < 2 ^ i ∧ (2 : Int) ^ i ≤ 4294967296 := by
  have h1 : (2 : Nat) ^ i ≤ 2 ^ 32 := Nat.pow_le_pow_right (by decide) h
  have h2 : 0 < (2 : Nat) ^ i := Nat.two_pow_pos i
  have e : ((2 ^ i : Nat) : Int) = (2 : Int) ^ i := by simp
  omega
theorem power_loop (b : Int) (n : Nat) (hn : n < 32) (hb : wrap64 (Int.tmod b 32) = n) :
    ∀ (d i k : Nat), i + d = n → d < k → rushlightref01_power.l0 k b (2 ^ i) i = some ((2 : Int) ^ n) := by
  intro d
  induction d with
  | zero =>
    intro i k hi hk
    obtain ⟨k, rfl⟩ : ∃ m, k = m + 1 := ⟨k - 1, by omega⟩
    obtain rfl : i = n := by omega
    simp only [rushlightref01_power.l0]
    rw [hb, if_neg (by omega)]
  | succ d ih =>
    intro i k hi hk
    obtain ⟨k, rfl⟩ : ∃ m, k = m + 1 := ⟨k - 1, by omega⟩
    simp only [rushlightref01_power.l0]
    obtain ⟨p0, p1⟩ := pow_le (i := i) (by omega)
    rw [hb, if_pos (by omega), w64 (a := 2 * 2 ^ i) (by omega) (by omega), w64 (a := (i : Int) + 1) (by omega) (by omega)]
    have := ih (i + 1) k (by omega) (by omega)
    rw [Int.pow_succ, Int.mul_comm] at this
    exact this
theorem power_eq {b : Int} (b0 : 0 ≤ b) (_b1 : b < 4294967296) : rushlightref01_power.f 33 b = some ((2 : Int) ^ (b % 32).toNat) := by
  unfold rushlightref01_power.f
  have hb : wrap64 (Int.tmod b 32) = ((b % 32).toNat : Int) := by
    rw [Int.tmod_eq_emod_of_nonneg b0, w64 (by omega) (by omega)]; omega
  have := power_loop b (b % 32).toNat (by omega) hb (b % 32).toNat 0 33 (by omega) (by omega)
  simpa using this
theorem and31 {b : Int} (b0 : 0 ≤ b) (b1 : b < 4294967296) : Go.bits .and .u32 b 31 = b % 32 :=
  bits_mask .u32 32 (by decide) (fun n h0 h1 => by rw [IntKind.wrap_u32]; omega) 5 (by decide) b b0 (by omega)
theorem pow_split (n : Nat) (h : n ≤ 32) : (2 : Int) ^ (32 - n) * 2 ^ n = 4294967296 := by
  rw [← Int.pow_add, Nat.sub_add_cancel h]; decide
theorem left_eq {a b : Int} (a0 : 0 ≤ a) (a1 : a < 4294967296) (b0 : 0 ≤ b) (b1 : b < 4294967296) :
    rushlightref01_Left.f 33 a b = some (a * 2 ^ (b % 32).toNat % 4294967296) := by
  unfold rushlightref01_Left.f
  rw [power_eq b0 b1]
  have hn : (b % 32).toNat < 32 := by omega
  generalize (b % 32).toNat = n at *
  obtain ⟨p0, p1⟩ := pow_le (i := n) (by omega)
  obtain ⟨q0, q1⟩ := pow_le (i := 32 - n) (by omega)
  have s := pow_split n (by omega)
  simp only [Option.bind_some]
  rw [if_neg (by omega)]
  have ed : Int.tdiv 4294967296 (2 ^ n) = 2 ^ (32 - n) := by
    rw [Int.tdiv_eq_ediv_of_nonneg (by decide), ← s, Int.mul_ediv_cancel _ (by omega)]
  rw [ed, w64 (a := 2 ^ (32 - n)) (by omega) (by omega), if_neg (by omega), w64 (a := a) (by omega) (by omega), Int.tmod_eq_emod_of_nonneg a0]
  have em : a % 2 ^ (32 - n) * 2 ^ n = a * 2 ^ n % 4294967296 := by
    rw [← s, Int.mul_comm (2 ^ (32 - n)), Int.mul_comm a, Int.mul_emod_mul_of_pos _ _ p0, Int.mul_comm]
  rw [em, w64 (by omega) (by omega), cut_eq (by omega) (by omega)]
  simp
theorem right_eq {a b : Int} (a0 : 0 ≤ a) (a1 : a < 4294967296) (b0 : 0 ≤ b) (b1 : b < 4294967296) :
    rushlightref01_Right.f 33 a b = some (a / 2 ^ (b % 32).toNat) := by
  unfold rushlightref01_Right.f
  rw [power_eq b0 b1]
  have hn : (b % 32).toNat < 32 := by omega
  generalize (b % 32).toNat = n at *
  obtain ⟨p0, p1⟩ := pow_le (i := n) (by omega)
  simp only [Option.bind_some]
  have q0 : 0 ≤ a / 2 ^ n := Int.ediv_nonneg a0 (by omega)
  have q1 : a / 2 ^ n ≤ a := Int.ediv_le_self _ a0
  rw [if_neg (by omega), w64 (a := a) (by omega) (by omega), Int.tdiv_eq_ediv_of_nonneg a0, w64 (by omega) (by omega), Int.emod_eq_of_lt q0 (by omega)]
theorem floor_eq (x p : Int) (hp : 0 < p) : (if x < 0 then (if Int.tdiv x p * p = x then Int.tdiv x p else Int.tdiv x p - 1) else Int.tdiv x p) = x / p := by
  split
  · rename_i hx
    have e := Int.tdiv_mul_add_tmod x p
    have m0 : Int.tmod x p ≤ 0 := by
      have := Int.tmod_nonneg p (show 0 ≤ -x by omega)
      rw [Int.neg_tmod] at this; omega
    have m1 : -p < Int.tmod x p := by
      have := Int.tmod_lt_of_pos (-x) hp
      rw [Int.neg_tmod] at this; omega
    split
    · rename_i h
      have := (Int.ediv_emod_unique (a := x) (b := p) (q := Int.tdiv x p) (r := 0) hp).2 ⟨by rw [Int.mul_comm]; omega, by omega, hp⟩
      exact this.1.symm
    · rename_i h
      have := (Int.ediv_emod_unique (a := x) (b := p) (q := Int.tdiv x p - 1) (r := Int.tmod x p + p) hp).2 ⟨by rw [Int.mul_sub, Int.mul_comm]; omega, by omega, by omega⟩
      exact this.1.symm
  · rw [Int.tdiv_eq_ediv_of_nonneg (by omega)]
theorem rights_eq {a b : Int} (a0 : 0 ≤ a) (a1 : a < 4294967296) (b0 : 0 ≤ b) (b1 : b < 4294967296) :
    rushlightref01_RightS.f 33 a b = some (sg a / 2 ^ (b % 32).toNat % 4294967296) := by
  unfold rushlightref01_RightS.f
  rw [power_eq b0 b1, signed_eq a0 a1]
  have hn : (b % 32).toNat < 32 := by omega
  generalize (b % 32).toNat = n at *
  obtain ⟨p0, p1⟩ := pow_le (i := n) (by omega)
  obtain ⟨x0, x1⟩ := sg_bd a0 a1
  have bd := tdiv_bd (sg a) (2 ^ n)
  have e := Int.tdiv_mul_add_tmod (sg a) (2 ^ n)
  have m1 : (Int.tmod (sg a) (2 ^ n)).natAbs < ((2 : Int) ^ n).natAbs := by rw [Int.natAbs_tmod]; exact Nat.mod_lt _ (by omega)
  have f := floor_eq (sg a) (2 ^ n) p0
  simp only [Option.bind_some]
  rw [if_neg (by omega), ← f, w64 (a := Int.tdiv (sg a) (2 ^ n)) (by omega) (by omega)]
  generalize Int.tdiv (sg a) (2 ^ n) * 2 ^ n = y at *
  rw [w64 (a := y) (by omega) (by omega), w64 (a := Int.tdiv (sg a) (2 ^ n) - 1) (by omega) (by omega), cut_eq (by omega) (by omega), cut_eq (by omega) (by omega)]
  simp only [Option.bind_some]
  split
  · split <;> rfl
  · rfl
theorem WordShifts : rushlightlaw01_WordShifts.Pure := by
  intro a b wa wb
  obtain ⟨a0, a1⟩ := u32_bd wa
  obtain ⟨b0, b1⟩ := u32_bd wb
  refine ⟨33, ?_⟩
  unfold rushlightlaw01_WordShifts.f word_Left.f word_Right.f word_RightS.f shl shr
  rw [awake_true, left_eq a0 a1 b0 b1, right_eq a0 a1 b0 b1, rights_eq a0 a1 b0 b1, and31 b0 b1, sg_wrap a0 a1]
  have m : min (b % 32).toNat IntKind.u32.bits = (b % 32).toNat := by simp only [IntKind.bits]; omega
  have m2 : min (b % 32).toNat IntKind.i32.bits = (b % 32).toNat := by simp only [IntKind.bits]; omega
  rw [m, m2, IntKind.wrap_u32, if_pos (by omega), if_pos (by omega), if_pos (by omega)]
  simp

end Go.Proofs.Ytoinjjlefckhhaa.Pure
