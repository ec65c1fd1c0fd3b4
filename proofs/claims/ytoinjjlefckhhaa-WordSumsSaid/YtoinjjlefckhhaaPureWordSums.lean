/- For any two words the sums, differences and products of the program are those of the reference: WordSums answers true. No condition. -/
import Derived.Test.YtoinjjlefckhhaaMath
namespace Go.Proofs.Ytoinjjlefckhhaa.Pure
open Go.RowKit Go.Proofs.Ytoinjjlefckhhaa.All Go.Proofs.Ytoinjjlefckhhaa.Math Go.Proofs.YtoinjjlefckhhaaW.PrintWords Go.Proofs.YtoinjjlefckhhaaW.PrintLast

theorem WordSums : rushlightlaw01_WordSums.Pure := by
  intro a b wa wb
  obtain ⟨a0, a1⟩ := u32_bd wa
  obtain ⟨b0, b1⟩ := u32_bd wb
  unfold rushlightlaw01_WordSums.f word_Add.f word_Sub.f word_Mul.f
  rw [awake_true, add_eq a0 a1 b0 b1, sub_eq a0 a1 b0 b1, mul_eq a0 a1 b0 b1]
  simp

end Go.Proofs.Ytoinjjlefckhhaa.Pure
