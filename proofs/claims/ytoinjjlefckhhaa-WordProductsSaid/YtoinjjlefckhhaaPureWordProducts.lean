/- For any two words both halves of a product together are the product, signed and not: WordProducts answers true. No condition. -/
import Derived.Test.YtoinjjlefckhhaaMath
namespace Go.Proofs.Ytoinjjlefckhhaa.Pure
open Go.RowKit Go.Proofs.Ytoinjjlefckhhaa.All Go.Proofs.Ytoinjjlefckhhaa.Math Go.Proofs.YtoinjjlefckhhaaW.PrintWords Go.Proofs.YtoinjjlefckhhaaW.PrintLast

theorem WordProducts : rushlightlaw01_WordProducts.Pure := by
  intro a b wa wb
  obtain ⟨a0, a1⟩ := u32_bd wa
  obtain ⟨b0, b1⟩ := u32_bd wb
  obtain ⟨p0, p1⟩ := prod_bd a0 a1 b0 b1
  obtain ⟨q0, q1⟩ := sprod_bd a0 a1 b0 b1
  have e2 := sg_mul a b
  unfold rushlightlaw01_WordProducts.f word_Mul.f
  rw [awake_true, wHigh a0 a1 b0 b1, wHighU a0 a1 b0 b1, signed_eq a0 a1, signed_eq b0 b1]
  simp only [Option.bind_some, if_true]
  rw [or_join (by omega) (by omega) (by omega) (by omega), or_join (by omega) (by omega) (by omega) (by omega)]
  rw [u64w, u64w, u64w, u64w, Int.emod_eq_of_lt a0 (by omega), Int.emod_eq_of_lt b0 (by omega), w64 (by omega) (by omega)]
  have e3 : ∃ z : Int, sg a * sg b = a * b - 4294967296 * z := by
    refine ⟨(if a ≥ 2147483648 then b else 0) + (if b ≥ 2147483648 then sg a else 0), ?_⟩
    rw [e2]; split <;> split <;> omega
  obtain ⟨z, e3⟩ := e3
  clear e2
  generalize sg a * sg b = q at *
  generalize a * b = p at *
  rw [if_pos (by omega)]
  congr 1
  rw [beq_iff_eq]
  omega

end Go.Proofs.Ytoinjjlefckhhaa.Pure
