/- For any two words the upper halves of the products of the program are those of the reference: WordHighs answers true. No condition. -/
import Derived.Test.YtoinjjlefckhhaaMath
namespace Go.Proofs.Ytoinjjlefckhhaa.Pure
open Go.RowKit Go.Proofs.Ytoinjjlefckhhaa.All Go.Proofs.Ytoinjjlefckhhaa.Math Go.Proofs.YtoinjjlefckhhaaW.PrintWords Go.Proofs.YtoinjjlefckhhaaW.PrintLast

theorem WordHighs : rushlightlaw01_WordHighs.Pure := by
  intro a b wa wb
  obtain ⟨a0, a1⟩ := u32_bd wa
  obtain ⟨b0, b1⟩ := u32_bd wb
  unfold rushlightlaw01_WordHighs.f
  rw [awake_true, wHigh a0 a1 b0 b1, wHighU a0 a1 b0 b1, wHighSU a0 a1 b0 b1, high_eq a0 a1 b0 b1, highU_eq a0 a1 b0 b1, highSU_eq a0 a1 b0 b1]
  simp

end Go.Proofs.Ytoinjjlefckhhaa.Pure
