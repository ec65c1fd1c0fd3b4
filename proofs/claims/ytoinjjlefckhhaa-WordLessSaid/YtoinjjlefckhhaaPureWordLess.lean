/- For any two words the comparisons of the program, signed and not, are those of the reference: WordLess answers true. No condition. -/
import Derived.Test.YtoinjjlefckhhaaMath
namespace Go.Proofs.Ytoinjjlefckhhaa.Pure
open Go.RowKit Go.Proofs.Ytoinjjlefckhhaa.All Go.Proofs.Ytoinjjlefckhhaa.Math Go.Proofs.YtoinjjlefckhhaaW.PrintWords Go.Proofs.YtoinjjlefckhhaaW.PrintLast

theorem WordLess : rushlightlaw01_WordLess.Pure := by
  intro a b wa wb
  obtain ⟨a0, a1⟩ := u32_bd wa
  obtain ⟨b0, b1⟩ := u32_bd wb
  unfold rushlightlaw01_WordLess.f word_Less.f word_LessU.f rushlightref01_Less.f rushlightref01_LessU.f word_bit.f
  rw [awake_true, signed_eq a0 a1, signed_eq b0 b1, sg_wrap a0 a1, sg_wrap b0 b1]
  by_cases h1 : sg a < sg b <;> by_cases h2 : a < b <;> simp [h1, h2]

end Go.Proofs.Ytoinjjlefckhhaa.Pure
