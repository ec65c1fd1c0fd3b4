/- For any two words quotient times divisor plus remainder is the dividend, and the remainder is less than the divisor and has the sign of the dividend: WordDivides answers true. No condition. -/
import Derived.Test.YtoinjjlefckhhaaMath
namespace Go.Proofs.Ytoinjjlefckhhaa.Pure
open Go.RowKit Go.Proofs.Ytoinjjlefckhhaa.All Go.Proofs.Ytoinjjlefckhhaa.Math Go.Proofs.YtoinjjlefckhhaaW.PrintWords Go.Proofs.YtoinjjlefckhhaaW.PrintLast Go.Proofs.YtoinjjlefckhhaaW.PrintMore

theorem last (k : Nat) {a b r u : Int} (a0 : 0 ≤ a) (a1 : a < 4294967296) (b0 : 0 ≤ b) (b1 : b < 4294967296) (hb : b ≠ 0)
    (hr : r = Int.tmod (sg a) (sg b) % 4294967296) (hu : u = a % b) : rushlightlaw01_WordDivides.j0 (k + 1) a b r u false = some true := by
  have ha : sg a % 4294967296 = a := by unfold sg; split <;> omega
  have hbb : sg b % 4294967296 = b := by unfold sg; split <;> omega
  have e := Int.tdiv_mul_add_tmod (sg a) (sg b)
  have q0 : 0 ≤ a / b := Int.ediv_nonneg a0 b0
  have q1 : a / b ≤ a := Int.ediv_le_self _ a0
  have r1 : a % b < b := Int.emod_lt_of_pos _ (by omega)
  have r0 : 0 ≤ a % b := Int.emod_nonneg _ hb
  have e2 := Int.ediv_mul_add_emod a b
  simp only [rushlightlaw01_WordDivides.j0]
  rw [awake_true, wDiv a0 a1 b0 b1 hb]
  unfold word_Mul.f word_Add.f word_DivU.f
  have s1 : (Int.tdiv (sg a) (sg b) % 4294967296 * b % 4294967296 + r) % 4294967296 = a := by
    have m : ∀ q : Int, q % 4294967296 * b % 4294967296 = q * sg b % 4294967296 := fun q => by
      conv => lhs; rw [← hbb]
      rw [← Int.mul_emod]
    rw [m, hr, ← Int.add_emod, e, ha]
  have td : Int.tdiv a b = a / b := Int.tdiv_eq_ediv_of_nonneg a0
  have s2 : (a / b % 4294967296 * b % 4294967296 + u) % 4294967296 = a := by
    rw [hu, Int.emod_eq_of_lt q0 (by omega)]
    have : a / b * b = a - a % b := by omega
    rw [this]
    omega
  simp only [Option.bind_some, if_true, if_neg hb, td, Bool.false_eq_true, if_false]
  rw [if_pos s1, if_pos s2, hu, decide_eq_true r1]
theorem sg_mod {z : Int} (h0 : -2147483648 ≤ z) (h1 : z < 2147483648) : sg (z % 4294967296) = z := by unfold sg; split <;> omega
theorem WordDivides : rushlightlaw01_WordDivides.Pure := by
  intro a b wa wb
  obtain ⟨a0, a1⟩ := u32_bd wa
  obtain ⟨b0, b1⟩ := u32_bd wb
  refine ⟨1, ?_⟩
  unfold rushlightlaw01_WordDivides.f
  by_cases hb : b = 0
  · rw [if_pos hb, awake_true]; rfl
  · rw [if_neg hb, wRem a0 a1 b0 b1 hb, signed_eq a0 a1, signed_eq b0 b1]
    have hz : sg b ≠ 0 := fun h => hb ((sg_zero b0 b1).1 h)
    obtain ⟨x0, x1⟩ := sg_bd a0 a1
    obtain ⟨y0, y1⟩ := sg_bd b0 b1
    have m1 : (Int.tmod (sg a) (sg b)).natAbs < (sg b).natAbs := by rw [Int.natAbs_tmod]; exact Nat.mod_lt _ (by omega)
    have m2 : 0 ≤ sg a → 0 ≤ Int.tmod (sg a) (sg b) := fun h => Int.tmod_nonneg _ h
    have m3 : sg a ≤ 0 → Int.tmod (sg a) (sg b) ≤ 0 := fun h => by
      have := Int.tmod_nonneg (sg b) (show 0 ≤ -sg a by omega)
      rw [Int.neg_tmod] at this; omega
    have sr : sg (Int.tmod (sg a) (sg b) % 4294967296) = Int.tmod (sg a) (sg b) := sg_mod (by omega) (by omega)
    have tm : Int.tmod a b = a % b := Int.tmod_eq_emod_of_nonneg a0
    have L := last 0 (r := Int.tmod (sg a) (sg b) % 4294967296) (u := a % b) a0 a1 b0 b1 hb rfl rfl
    unfold word_RemU.f
    rw [if_neg hb, tm]
    simp only [Option.bind_some]
    rw [signed_eq (by omega) (by omega), sr]
    simp only [Option.bind_some]
    rw [w64 (a := -sg b) (by omega) (by omega)]
    generalize Int.tmod (sg a) (sg b) = z at *
    have nz : z ≤ sg b → z ≤ -sg b → (z != 0) = false := fun h1 h2 => by
      have : z = 0 := by omega
      rw [this]; rfl
    repeat' split
    all_goals first | exact L | (rw [nz (by assumption) (by assumption)]; exact L) | (exfalso; omega)

end Go.Proofs.Ytoinjjlefckhhaa.Pure
