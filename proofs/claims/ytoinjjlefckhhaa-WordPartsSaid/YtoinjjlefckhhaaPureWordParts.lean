/- For any two words the quotients and remainders of the program, signed and not, division by 0 too, are those of the reference: WordParts answers true. No condition. -/
import Derived.Test.YtoinjjlefckhhaaMath
namespace Go.Proofs.Ytoinjjlefckhhaa.Pure
open Go.RowKit Go.Proofs.Ytoinjjlefckhhaa.All Go.Proofs.Ytoinjjlefckhhaa.Math Go.Proofs.YtoinjjlefckhhaaW.PrintWords Go.Proofs.YtoinjjlefckhhaaW.PrintLast

theorem abs_eq {x : Int} (h0 : -2147483648 ≤ x) (h1 : x ≤ 2147483648) : rushlightref01_abs.f x = some (x.natAbs : Int) := by
  unfold rushlightref01_abs.f
  split
  · rw [w64 (by omega) (by omega)]; congr 1; omega
  · congr 1; omega
theorem wrapc {n : Int} (h0 : -4294967296 ≤ n) (h1 : n ≤ 4294967296) : rushlightref01_Cut.f (wrap64 n) = some (n % 4294967296) := by
  rw [w64 (by omega) (by omega), cut_eq (by omega) (by omega)]
theorem quo_signs (x y : Int) : Int.tdiv x y = if x < 0 ∧ y > 0 ∨ x > 0 ∧ y < 0 then -(Int.tdiv x.natAbs y.natAbs) else Int.tdiv x.natAbs y.natAbs := by
  rcases Int.natAbs_eq x with hx | hx <;> rcases Int.natAbs_eq y with hy | hy
  · rw [if_neg (by omega)]
    conv => lhs; rw [hx, hy]
  · conv => lhs; rw [hx, hy]
    rw [Int.tdiv_neg]
    split
    · rfl
    · rename_i h
      have : x.natAbs = 0 ∨ y.natAbs = 0 := by omega
      rcases this with h | h <;> rw [h] <;> simp
  · conv => lhs; rw [hx, hy]
    rw [Int.neg_tdiv]
    split
    · rfl
    · rename_i h
      have : x.natAbs = 0 ∨ y.natAbs = 0 := by omega
      rcases this with h | h <;> rw [h] <;> simp
  · rw [if_neg (by omega)]
    conv => lhs; rw [hx, hy]
    rw [Int.neg_tdiv, Int.tdiv_neg, Int.neg_neg]
theorem rem_signs (x y : Int) : Int.tmod x y = if x < 0 then -(Int.tmod x.natAbs y.natAbs) else Int.tmod x.natAbs y.natAbs := by
  have hy : Int.tmod x y = Int.tmod x y.natAbs := by
    rcases Int.natAbs_eq y with hy | hy
    · conv => lhs; rw [hy]
    · conv => lhs; rw [hy]
      rw [Int.tmod_neg]
  rw [hy]
  split
  · have : x = -(x.natAbs : Int) := by omega
    conv => lhs; rw [this]
    rw [Int.neg_tmod]
  · have : x = (x.natAbs : Int) := by omega
    conv => lhs; rw [this]
theorem div_eq {a b : Int} (a0 : 0 ≤ a) (a1 : a < 4294967296) (b0 : 0 ≤ b) (b1 : b < 4294967296) (hb : b ≠ 0) :
    rushlightref01_Div.f a b = some (Int.tdiv (sg a) (sg b) % 4294967296) := by
  obtain ⟨x0, x1⟩ := sg_bd a0 a1
  obtain ⟨y0, y1⟩ := sg_bd b0 b1
  have hz : sg b ≠ 0 := fun h => hb ((sg_zero b0 b1).1 h)
  unfold rushlightref01_Div.f
  rw [signed_eq a0 a1, signed_eq b0 b1]
  simp only [Option.bind_some]
  rw [if_neg hz, abs_eq (by omega) (by omega), abs_eq (by omega) (by omega)]
  simp only [Option.bind_some]
  rw [if_neg (by omega), quo_signs (sg a) (sg b)]
  have bd := tdiv_bd ((sg a).natAbs : Int) ((sg b).natAbs : Int)
  generalize Int.tdiv ((sg a).natAbs : Int) ((sg b).natAbs : Int) = q at *
  have q1 : -2147483648 ≤ q ∧ q ≤ 2147483648 := by omega
  have e1 : wrap64 (-(wrap64 q)) = wrap64 (-q) := by rw [w64 (a := q) (by omega) (by omega)]
  rw [e1, wrapc (n := -q) (by omega) (by omega), wrapc (n := q) (by omega) (by omega)]
  simp only [Option.bind_some]
  by_cases h1 : sg a < 0 <;> by_cases h2 : sg b > 0 <;> by_cases h3 : sg a > 0 <;> by_cases h4 : sg b < 0 <;> simp only [h1, h2, h3, h4, if_true, if_false, and_true, and_false, or_true, or_false]
theorem rem_eq {a b : Int} (a0 : 0 ≤ a) (a1 : a < 4294967296) (b0 : 0 ≤ b) (b1 : b < 4294967296) (hb : b ≠ 0) :
    rushlightref01_Rem.f a b = some (Int.tmod (sg a) (sg b) % 4294967296) := by
  obtain ⟨x0, x1⟩ := sg_bd a0 a1
  obtain ⟨y0, y1⟩ := sg_bd b0 b1
  have hz : sg b ≠ 0 := fun h => hb ((sg_zero b0 b1).1 h)
  unfold rushlightref01_Rem.f
  rw [signed_eq a0 a1, signed_eq b0 b1]
  simp only [Option.bind_some]
  rw [if_neg hz, abs_eq (by omega) (by omega), abs_eq (by omega) (by omega)]
  simp only [Option.bind_some]
  rw [if_neg (by omega), rem_signs (sg a) (sg b)]
  have bd0 : 0 ≤ Int.tmod ((sg a).natAbs : Int) ((sg b).natAbs : Int) := Int.tmod_nonneg _ (by omega)
  have bd1 : Int.tmod ((sg a).natAbs : Int) ((sg b).natAbs : Int) < ((sg b).natAbs : Int) := Int.tmod_lt_of_pos _ (by omega)
  generalize Int.tmod ((sg a).natAbs : Int) ((sg b).natAbs : Int) = q at *
  rw [wrapc (n := -q) (by omega) (by omega), cut_eq (n := q) (by omega) (by omega)]
  simp only [Option.bind_some]
  by_cases h1 : sg a < 0 <;> simp only [h1, if_true, if_false]
theorem WordParts : rushlightlaw01_WordParts.Pure := by
  intro a b wa wb
  obtain ⟨a0, a1⟩ := u32_bd wa
  obtain ⟨b0, b1⟩ := u32_bd wb
  unfold rushlightlaw01_WordParts.f word_DivU.f word_RemU.f rushlightref01_DivU.f rushlightref01_RemU.f
  rw [awake_true, w64 (a := a) (by omega) (by omega), w64 (a := b) (by omega) (by omega)]
  by_cases hb : b = 0
  · subst hb
    have e1 : word_Div.f a 0 = some 4294967295 := rfl
    have e2 : word_Rem.f a 0 = some a := rfl
    have e3 : rushlightref01_Div.f a 0 = some 4294967295 := by
      unfold rushlightref01_Div.f; rw [signed_eq a0 a1, signed_eq (a := 0) (by decide) (by decide)]; rfl
    have e4 : rushlightref01_Rem.f a 0 = some a := by
      unfold rushlightref01_Rem.f; rw [signed_eq a0 a1, signed_eq (a := 0) (by decide) (by decide)]; rfl
    rw [e1, e2, e3, e4]; simp
  · rw [wDiv a0 a1 b0 b1 hb, wRem a0 a1 b0 b1 hb, div_eq a0 a1 b0 b1 hb, rem_eq a0 a1 b0 b1 hb]
    have td : Int.tdiv a b = a / b := Int.tdiv_eq_ediv_of_nonneg a0
    have tm : Int.tmod a b = a % b := Int.tmod_eq_emod_of_nonneg a0
    have q0 : 0 ≤ a / b := Int.ediv_nonneg a0 b0
    have q1 : a / b ≤ a := Int.ediv_le_self _ a0
    have r0 : 0 ≤ a % b := Int.emod_nonneg _ hb
    have r1 : a % b < b := Int.emod_lt_of_pos _ (by omega)
    rw [td, tm, w64 (a := a / b) (by omega) (by omega)]
    simp [hb]
    omega

end Go.Proofs.Ytoinjjlefckhhaa.Pure
