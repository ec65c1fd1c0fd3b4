-- Written by this session's own program (wip/tools/myprint.py over the kit's printer), functions proved by hand among them. Not trusted: Lean checks it.
import Derived.Test.YtoinjjlefckhhaaAll0
import Derived.Test.YtoinjjlefckhhaaAll1
import Derived.Test.YtoinjjlefckhhaaAll2
import Derived.Test.YtoinjjlefckhhaaAll3
namespace Go.Proofs.Ytoinjjlefckhhaa.All
open Go.RowKit Go.Proofs.YtoinjjlefckhhaaW.PrintWords Go.Proofs.YtoinjjlefckhhaaW.PrintLast Go.Proofs.YtoinjjlefckhhaaW.PrintMore
attribute [local go_sem] max2_int min2_int max_two min_two max_three min_three max_four min_four   -- for this text's walks alone
set_option linter.unusedVariables false
set_option linter.unusedSimpArgs false

/-! ### rushlightlaw01_WordDivides: function 10 -/
def rushlightlaw01_WordDivides.j0 : Nat → Int → Int → Int → Int → Bool → Option (Bool)
  | 0, _, _, _, _, _ => none
  | k + 1, x0, x1, x5, x6, x64 => if x64 = true then (some false) else ((rushlightlaw01_awake.f).bind fun t208 => (if t208 = true then ((word_Div.f x0 x1).bind fun t209 => ((word_Mul.f t209 x1).bind fun t210 => ((word_Add.f t210 x5).bind fun t211 => (if t211 = x0 then ((word_DivU.f x0 x1).bind fun t212 => ((word_Mul.f t212 x1).bind fun t213 => ((word_Add.f t213 x6).bind fun t214 => (if t214 = x0 then (some (decide (x6 < x1))) else (some false))))) else (some false))))) else (some false)))
def rushlightlaw01_WordDivides.f (k : Nat) (a0 : Int) (a1 : Int) : Option (Bool) := if a1 = 0 then ((rushlightlaw01_awake.f).bind fun t202 => (some t202)) else ((word_Rem.f a0 a1).bind fun t203 => ((word_RemU.f a0 a1).bind fun t204 => ((rushlightref01_Signed.f a0).bind fun t205 => ((rushlightref01_Signed.f a1).bind fun t206 => ((rushlightref01_Signed.f t203).bind fun t207 => (if t205 ≥ 0 then (if t207 < 0 then (rushlightlaw01_WordDivides.j0 k a0 a1 t203 t204 true) else (if t205 ≤ 0 then (if t207 > 0 then (rushlightlaw01_WordDivides.j0 k a0 a1 t203 t204 true) else (if t207 ≥ t206 then (if t207 ≥ (wrap64 (-t206)) then (rushlightlaw01_WordDivides.j0 k a0 a1 t203 t204 true) else (if t207 ≤ t206 then (if t207 ≤ (wrap64 (-t206)) then (rushlightlaw01_WordDivides.j0 k a0 a1 t203 t204 (t207 != 0)) else (rushlightlaw01_WordDivides.j0 k a0 a1 t203 t204 false)) else (rushlightlaw01_WordDivides.j0 k a0 a1 t203 t204 false))) else (if t207 ≤ t206 then (if t207 ≤ (wrap64 (-t206)) then (rushlightlaw01_WordDivides.j0 k a0 a1 t203 t204 (t207 != 0)) else (rushlightlaw01_WordDivides.j0 k a0 a1 t203 t204 false)) else (rushlightlaw01_WordDivides.j0 k a0 a1 t203 t204 false)))) else (if t207 ≥ t206 then (if t207 ≥ (wrap64 (-t206)) then (rushlightlaw01_WordDivides.j0 k a0 a1 t203 t204 true) else (if t207 ≤ t206 then (if t207 ≤ (wrap64 (-t206)) then (rushlightlaw01_WordDivides.j0 k a0 a1 t203 t204 (t207 != 0)) else (rushlightlaw01_WordDivides.j0 k a0 a1 t203 t204 false)) else (rushlightlaw01_WordDivides.j0 k a0 a1 t203 t204 false))) else (if t207 ≤ t206 then (if t207 ≤ (wrap64 (-t206)) then (rushlightlaw01_WordDivides.j0 k a0 a1 t203 t204 (t207 != 0)) else (rushlightlaw01_WordDivides.j0 k a0 a1 t203 t204 false)) else (rushlightlaw01_WordDivides.j0 k a0 a1 t203 t204 false))))) else (if t205 ≤ 0 then (if t207 > 0 then (rushlightlaw01_WordDivides.j0 k a0 a1 t203 t204 true) else (if t207 ≥ t206 then (if t207 ≥ (wrap64 (-t206)) then (rushlightlaw01_WordDivides.j0 k a0 a1 t203 t204 true) else (if t207 ≤ t206 then (if t207 ≤ (wrap64 (-t206)) then (rushlightlaw01_WordDivides.j0 k a0 a1 t203 t204 (t207 != 0)) else (rushlightlaw01_WordDivides.j0 k a0 a1 t203 t204 false)) else (rushlightlaw01_WordDivides.j0 k a0 a1 t203 t204 false))) else (if t207 ≤ t206 then (if t207 ≤ (wrap64 (-t206)) then (rushlightlaw01_WordDivides.j0 k a0 a1 t203 t204 (t207 != 0)) else (rushlightlaw01_WordDivides.j0 k a0 a1 t203 t204 false)) else (rushlightlaw01_WordDivides.j0 k a0 a1 t203 t204 false)))) else (if t207 ≥ t206 then (if t207 ≥ (wrap64 (-t206)) then (rushlightlaw01_WordDivides.j0 k a0 a1 t203 t204 true) else (if t207 ≤ t206 then (if t207 ≤ (wrap64 (-t206)) then (rushlightlaw01_WordDivides.j0 k a0 a1 t203 t204 (t207 != 0)) else (rushlightlaw01_WordDivides.j0 k a0 a1 t203 t204 false)) else (rushlightlaw01_WordDivides.j0 k a0 a1 t203 t204 false))) else (if t207 ≤ t206 then (if t207 ≤ (wrap64 (-t206)) then (rushlightlaw01_WordDivides.j0 k a0 a1 t203 t204 (t207 != 0)) else (rushlightlaw01_WordDivides.j0 k a0 a1 t203 t204 false)) else (rushlightlaw01_WordDivides.j0 k a0 a1 t203 t204 false))))))))))
theorem rushlightlaw01_WordDivides.mono_l : ∀ k, (∀ y0 y1 y2 y3 y4, LeO (rushlightlaw01_WordDivides.j0 k y0 y1 y2 y3 y4) (rushlightlaw01_WordDivides.j0 (k + 1) y0 y1 y2 y3 y4))
  | 0 => fun _ _ _ _ _ r h => by simp [rushlightlaw01_WordDivides.j0] at h
  | k + 1 => by
    have ih0 := rushlightlaw01_WordDivides.mono_l k
    · intro y0 y1 y2 y3 y4
      unfold rushlightlaw01_WordDivides.j0
      repeat' first
      | (with_reducible exact ih0 _ _ _ _ _)
      | (with_reducible exact LeO.refl _)
      | (with_reducible exact LeO.none _)
      | (with_reducible refine LeO.ite ?_ ?_)
      | (with_reducible refine LeO.bind ?_ (fun _ => ?_))
      | exact ih0 _ _ _ _ _
      | exact LeO.none _
      | refine LeO.ite ?_ ?_
      | refine LeO.bind ?_ (fun _ => ?_)
theorem rushlightlaw01_WordDivides.mono : ∀ a0 a1 k, LeO (rushlightlaw01_WordDivides.f k a0 a1) (rushlightlaw01_WordDivides.f (k + 1) a0 a1) := by
  intro a0 a1 k
  have ih0 := rushlightlaw01_WordDivides.mono_l k
  unfold rushlightlaw01_WordDivides.f
  repeat' first
      | (with_reducible exact ih0 _ _ _ _ _)
      | (with_reducible exact LeO.refl _)
      | (with_reducible exact LeO.none _)
      | (with_reducible refine LeO.ite ?_ ?_)
      | (with_reducible refine LeO.bind ?_ (fun _ => ?_))
      | exact ih0 _ _ _ _ _
      | exact LeO.none _
      | refine LeO.ite ?_ ?_
      | refine LeO.bind ?_ (fun _ => ?_)
set_option maxHeartbeats 8000000 in
set_option maxRecDepth 100000 in
theorem rushlightlaw01_WordDivides.calls (k : Nat) (a0 : Int) (a1 : Int) (r : Bool) (w : World) (h : rushlightlaw01_WordDivides.f k a0 a1 = some r) :
    Calls Try.prog 10 #[.int .u32 a0, .int .u32 a1] w fun e w' => e = .returned (.bool r) ∧ Drawn0 w w' := by
  have H : (if a1 = 0 then ((rushlightlaw01_awake.f).bind fun t202 => (some t202)) else ((word_Rem.f a0 a1).bind fun t203 => ((word_RemU.f a0 a1).bind fun t204 => ((rushlightref01_Signed.f a0).bind fun t205 => ((rushlightref01_Signed.f a1).bind fun t206 => ((rushlightref01_Signed.f t203).bind fun t207 => (if t205 ≥ 0 then (if t207 < 0 then (rushlightlaw01_WordDivides.j0 k a0 a1 t203 t204 true) else (if t205 ≤ 0 then (if t207 > 0 then (rushlightlaw01_WordDivides.j0 k a0 a1 t203 t204 true) else (if t207 ≥ t206 then (if t207 ≥ (wrap64 (-t206)) then (rushlightlaw01_WordDivides.j0 k a0 a1 t203 t204 true) else (if t207 ≤ t206 then (if t207 ≤ (wrap64 (-t206)) then (rushlightlaw01_WordDivides.j0 k a0 a1 t203 t204 (t207 != 0)) else (rushlightlaw01_WordDivides.j0 k a0 a1 t203 t204 false)) else (rushlightlaw01_WordDivides.j0 k a0 a1 t203 t204 false))) else (if t207 ≤ t206 then (if t207 ≤ (wrap64 (-t206)) then (rushlightlaw01_WordDivides.j0 k a0 a1 t203 t204 (t207 != 0)) else (rushlightlaw01_WordDivides.j0 k a0 a1 t203 t204 false)) else (rushlightlaw01_WordDivides.j0 k a0 a1 t203 t204 false)))) else (if t207 ≥ t206 then (if t207 ≥ (wrap64 (-t206)) then (rushlightlaw01_WordDivides.j0 k a0 a1 t203 t204 true) else (if t207 ≤ t206 then (if t207 ≤ (wrap64 (-t206)) then (rushlightlaw01_WordDivides.j0 k a0 a1 t203 t204 (t207 != 0)) else (rushlightlaw01_WordDivides.j0 k a0 a1 t203 t204 false)) else (rushlightlaw01_WordDivides.j0 k a0 a1 t203 t204 false))) else (if t207 ≤ t206 then (if t207 ≤ (wrap64 (-t206)) then (rushlightlaw01_WordDivides.j0 k a0 a1 t203 t204 (t207 != 0)) else (rushlightlaw01_WordDivides.j0 k a0 a1 t203 t204 false)) else (rushlightlaw01_WordDivides.j0 k a0 a1 t203 t204 false))))) else (if t205 ≤ 0 then (if t207 > 0 then (rushlightlaw01_WordDivides.j0 k a0 a1 t203 t204 true) else (if t207 ≥ t206 then (if t207 ≥ (wrap64 (-t206)) then (rushlightlaw01_WordDivides.j0 k a0 a1 t203 t204 true) else (if t207 ≤ t206 then (if t207 ≤ (wrap64 (-t206)) then (rushlightlaw01_WordDivides.j0 k a0 a1 t203 t204 (t207 != 0)) else (rushlightlaw01_WordDivides.j0 k a0 a1 t203 t204 false)) else (rushlightlaw01_WordDivides.j0 k a0 a1 t203 t204 false))) else (if t207 ≤ t206 then (if t207 ≤ (wrap64 (-t206)) then (rushlightlaw01_WordDivides.j0 k a0 a1 t203 t204 (t207 != 0)) else (rushlightlaw01_WordDivides.j0 k a0 a1 t203 t204 false)) else (rushlightlaw01_WordDivides.j0 k a0 a1 t203 t204 false)))) else (if t207 ≥ t206 then (if t207 ≥ (wrap64 (-t206)) then (rushlightlaw01_WordDivides.j0 k a0 a1 t203 t204 true) else (if t207 ≤ t206 then (if t207 ≤ (wrap64 (-t206)) then (rushlightlaw01_WordDivides.j0 k a0 a1 t203 t204 (t207 != 0)) else (rushlightlaw01_WordDivides.j0 k a0 a1 t203 t204 false)) else (rushlightlaw01_WordDivides.j0 k a0 a1 t203 t204 false))) else (if t207 ≤ t206 then (if t207 ≤ (wrap64 (-t206)) then (rushlightlaw01_WordDivides.j0 k a0 a1 t203 t204 (t207 != 0)) else (rushlightlaw01_WordDivides.j0 k a0 a1 t203 t204 false)) else (rushlightlaw01_WordDivides.j0 k a0 a1 t203 t204 false))))))))))) = some r := h
  clear h
  by_cases c3 : a1 = 0
  · rw [if_pos c3] at H
    have c3b0 : (a1 == 0) = true := beq_iff_eq.mpr c3
    have c3b1 : (a1 != 0) = false := bne_eq_false_iff_eq.mpr c3
    clear c3
    replace H := Option.bind_eq_some_iff.mp H
    obtain ⟨t202, A40, H⟩ := H
    replace H : (some t202) = some r := H
    have A4 := Aside0.mk A40
    clear A40
    obtain rfl := Option.some.inj H
    go_enter Try.func10, Try.ntmps10
    go_wp2_with (first | (go_at_call 12; (with_reducible refine (rushlightlaw01_awake.calls  t202 _ A4.out).mono ?_); rintro e w' ⟨rfl, ⟨nd, rfl⟩⟩))
    go_ret
    exact ⟨by first | rfl | (simp; done) | (simp [*]; done), by repeat (first | exact Drawn0.refl _ | apply Drawn0.step)⟩
  · rw [if_neg c3] at H
    have c3b0 : (a1 == 0) = false := beq_eq_false_iff_ne.mpr c3
    have c3b1 : (a1 != 0) = true := bne_iff_ne.mpr c3
    replace H := Option.bind_eq_some_iff.mp H
    obtain ⟨t203, A50, H⟩ := H
    replace H : ((word_RemU.f a0 a1).bind fun t204 => ((rushlightref01_Signed.f a0).bind fun t205 => ((rushlightref01_Signed.f a1).bind fun t206 => ((rushlightref01_Signed.f t203).bind fun t207 => (if t205 ≥ 0 then (if t207 < 0 then (rushlightlaw01_WordDivides.j0 k a0 a1 t203 t204 true) else (if t205 ≤ 0 then (if t207 > 0 then (rushlightlaw01_WordDivides.j0 k a0 a1 t203 t204 true) else (if t207 ≥ t206 then (if t207 ≥ (wrap64 (-t206)) then (rushlightlaw01_WordDivides.j0 k a0 a1 t203 t204 true) else (if t207 ≤ t206 then (if t207 ≤ (wrap64 (-t206)) then (rushlightlaw01_WordDivides.j0 k a0 a1 t203 t204 (t207 != 0)) else (rushlightlaw01_WordDivides.j0 k a0 a1 t203 t204 false)) else (rushlightlaw01_WordDivides.j0 k a0 a1 t203 t204 false))) else (if t207 ≤ t206 then (if t207 ≤ (wrap64 (-t206)) then (rushlightlaw01_WordDivides.j0 k a0 a1 t203 t204 (t207 != 0)) else (rushlightlaw01_WordDivides.j0 k a0 a1 t203 t204 false)) else (rushlightlaw01_WordDivides.j0 k a0 a1 t203 t204 false)))) else (if t207 ≥ t206 then (if t207 ≥ (wrap64 (-t206)) then (rushlightlaw01_WordDivides.j0 k a0 a1 t203 t204 true) else (if t207 ≤ t206 then (if t207 ≤ (wrap64 (-t206)) then (rushlightlaw01_WordDivides.j0 k a0 a1 t203 t204 (t207 != 0)) else (rushlightlaw01_WordDivides.j0 k a0 a1 t203 t204 false)) else (rushlightlaw01_WordDivides.j0 k a0 a1 t203 t204 false))) else (if t207 ≤ t206 then (if t207 ≤ (wrap64 (-t206)) then (rushlightlaw01_WordDivides.j0 k a0 a1 t203 t204 (t207 != 0)) else (rushlightlaw01_WordDivides.j0 k a0 a1 t203 t204 false)) else (rushlightlaw01_WordDivides.j0 k a0 a1 t203 t204 false))))) else (if t205 ≤ 0 then (if t207 > 0 then (rushlightlaw01_WordDivides.j0 k a0 a1 t203 t204 true) else (if t207 ≥ t206 then (if t207 ≥ (wrap64 (-t206)) then (rushlightlaw01_WordDivides.j0 k a0 a1 t203 t204 true) else (if t207 ≤ t206 then (if t207 ≤ (wrap64 (-t206)) then (rushlightlaw01_WordDivides.j0 k a0 a1 t203 t204 (t207 != 0)) else (rushlightlaw01_WordDivides.j0 k a0 a1 t203 t204 false)) else (rushlightlaw01_WordDivides.j0 k a0 a1 t203 t204 false))) else (if t207 ≤ t206 then (if t207 ≤ (wrap64 (-t206)) then (rushlightlaw01_WordDivides.j0 k a0 a1 t203 t204 (t207 != 0)) else (rushlightlaw01_WordDivides.j0 k a0 a1 t203 t204 false)) else (rushlightlaw01_WordDivides.j0 k a0 a1 t203 t204 false)))) else (if t207 ≥ t206 then (if t207 ≥ (wrap64 (-t206)) then (rushlightlaw01_WordDivides.j0 k a0 a1 t203 t204 true) else (if t207 ≤ t206 then (if t207 ≤ (wrap64 (-t206)) then (rushlightlaw01_WordDivides.j0 k a0 a1 t203 t204 (t207 != 0)) else (rushlightlaw01_WordDivides.j0 k a0 a1 t203 t204 false)) else (rushlightlaw01_WordDivides.j0 k a0 a1 t203 t204 false))) else (if t207 ≤ t206 then (if t207 ≤ (wrap64 (-t206)) then (rushlightlaw01_WordDivides.j0 k a0 a1 t203 t204 (t207 != 0)) else (rushlightlaw01_WordDivides.j0 k a0 a1 t203 t204 false)) else (rushlightlaw01_WordDivides.j0 k a0 a1 t203 t204 false))))))))) = some r := H
    have A5 := Aside0.mk A50
    clear A50
    replace H := Option.bind_eq_some_iff.mp H
    obtain ⟨t204, A60, H⟩ := H
    replace H : ((rushlightref01_Signed.f a0).bind fun t205 => ((rushlightref01_Signed.f a1).bind fun t206 => ((rushlightref01_Signed.f t203).bind fun t207 => (if t205 ≥ 0 then (if t207 < 0 then (rushlightlaw01_WordDivides.j0 k a0 a1 t203 t204 true) else (if t205 ≤ 0 then (if t207 > 0 then (rushlightlaw01_WordDivides.j0 k a0 a1 t203 t204 true) else (if t207 ≥ t206 then (if t207 ≥ (wrap64 (-t206)) then (rushlightlaw01_WordDivides.j0 k a0 a1 t203 t204 true) else (if t207 ≤ t206 then (if t207 ≤ (wrap64 (-t206)) then (rushlightlaw01_WordDivides.j0 k a0 a1 t203 t204 (t207 != 0)) else (rushlightlaw01_WordDivides.j0 k a0 a1 t203 t204 false)) else (rushlightlaw01_WordDivides.j0 k a0 a1 t203 t204 false))) else (if t207 ≤ t206 then (if t207 ≤ (wrap64 (-t206)) then (rushlightlaw01_WordDivides.j0 k a0 a1 t203 t204 (t207 != 0)) else (rushlightlaw01_WordDivides.j0 k a0 a1 t203 t204 false)) else (rushlightlaw01_WordDivides.j0 k a0 a1 t203 t204 false)))) else (if t207 ≥ t206 then (if t207 ≥ (wrap64 (-t206)) then (rushlightlaw01_WordDivides.j0 k a0 a1 t203 t204 true) else (if t207 ≤ t206 then (if t207 ≤ (wrap64 (-t206)) then (rushlightlaw01_WordDivides.j0 k a0 a1 t203 t204 (t207 != 0)) else (rushlightlaw01_WordDivides.j0 k a0 a1 t203 t204 false)) else (rushlightlaw01_WordDivides.j0 k a0 a1 t203 t204 false))) else (if t207 ≤ t206 then (if t207 ≤ (wrap64 (-t206)) then (rushlightlaw01_WordDivides.j0 k a0 a1 t203 t204 (t207 != 0)) else (rushlightlaw01_WordDivides.j0 k a0 a1 t203 t204 false)) else (rushlightlaw01_WordDivides.j0 k a0 a1 t203 t204 false))))) else (if t205 ≤ 0 then (if t207 > 0 then (rushlightlaw01_WordDivides.j0 k a0 a1 t203 t204 true) else (if t207 ≥ t206 then (if t207 ≥ (wrap64 (-t206)) then (rushlightlaw01_WordDivides.j0 k a0 a1 t203 t204 true) else (if t207 ≤ t206 then (if t207 ≤ (wrap64 (-t206)) then (rushlightlaw01_WordDivides.j0 k a0 a1 t203 t204 (t207 != 0)) else (rushlightlaw01_WordDivides.j0 k a0 a1 t203 t204 false)) else (rushlightlaw01_WordDivides.j0 k a0 a1 t203 t204 false))) else (if t207 ≤ t206 then (if t207 ≤ (wrap64 (-t206)) then (rushlightlaw01_WordDivides.j0 k a0 a1 t203 t204 (t207 != 0)) else (rushlightlaw01_WordDivides.j0 k a0 a1 t203 t204 false)) else (rushlightlaw01_WordDivides.j0 k a0 a1 t203 t204 false)))) else (if t207 ≥ t206 then (if t207 ≥ (wrap64 (-t206)) then (rushlightlaw01_WordDivides.j0 k a0 a1 t203 t204 true) else (if t207 ≤ t206 then (if t207 ≤ (wrap64 (-t206)) then (rushlightlaw01_WordDivides.j0 k a0 a1 t203 t204 (t207 != 0)) else (rushlightlaw01_WordDivides.j0 k a0 a1 t203 t204 false)) else (rushlightlaw01_WordDivides.j0 k a0 a1 t203 t204 false))) else (if t207 ≤ t206 then (if t207 ≤ (wrap64 (-t206)) then (rushlightlaw01_WordDivides.j0 k a0 a1 t203 t204 (t207 != 0)) else (rushlightlaw01_WordDivides.j0 k a0 a1 t203 t204 false)) else (rushlightlaw01_WordDivides.j0 k a0 a1 t203 t204 false)))))))) = some r := H
    have A6 := Aside0.mk A60
    clear A60
    replace H := Option.bind_eq_some_iff.mp H
    obtain ⟨t205, A70, H⟩ := H
    replace H : ((rushlightref01_Signed.f a1).bind fun t206 => ((rushlightref01_Signed.f t203).bind fun t207 => (if t205 ≥ 0 then (if t207 < 0 then (rushlightlaw01_WordDivides.j0 k a0 a1 t203 t204 true) else (if t205 ≤ 0 then (if t207 > 0 then (rushlightlaw01_WordDivides.j0 k a0 a1 t203 t204 true) else (if t207 ≥ t206 then (if t207 ≥ (wrap64 (-t206)) then (rushlightlaw01_WordDivides.j0 k a0 a1 t203 t204 true) else (if t207 ≤ t206 then (if t207 ≤ (wrap64 (-t206)) then (rushlightlaw01_WordDivides.j0 k a0 a1 t203 t204 (t207 != 0)) else (rushlightlaw01_WordDivides.j0 k a0 a1 t203 t204 false)) else (rushlightlaw01_WordDivides.j0 k a0 a1 t203 t204 false))) else (if t207 ≤ t206 then (if t207 ≤ (wrap64 (-t206)) then (rushlightlaw01_WordDivides.j0 k a0 a1 t203 t204 (t207 != 0)) else (rushlightlaw01_WordDivides.j0 k a0 a1 t203 t204 false)) else (rushlightlaw01_WordDivides.j0 k a0 a1 t203 t204 false)))) else (if t207 ≥ t206 then (if t207 ≥ (wrap64 (-t206)) then (rushlightlaw01_WordDivides.j0 k a0 a1 t203 t204 true) else (if t207 ≤ t206 then (if t207 ≤ (wrap64 (-t206)) then (rushlightlaw01_WordDivides.j0 k a0 a1 t203 t204 (t207 != 0)) else (rushlightlaw01_WordDivides.j0 k a0 a1 t203 t204 false)) else (rushlightlaw01_WordDivides.j0 k a0 a1 t203 t204 false))) else (if t207 ≤ t206 then (if t207 ≤ (wrap64 (-t206)) then (rushlightlaw01_WordDivides.j0 k a0 a1 t203 t204 (t207 != 0)) else (rushlightlaw01_WordDivides.j0 k a0 a1 t203 t204 false)) else (rushlightlaw01_WordDivides.j0 k a0 a1 t203 t204 false))))) else (if t205 ≤ 0 then (if t207 > 0 then (rushlightlaw01_WordDivides.j0 k a0 a1 t203 t204 true) else (if t207 ≥ t206 then (if t207 ≥ (wrap64 (-t206)) then (rushlightlaw01_WordDivides.j0 k a0 a1 t203 t204 true) else (if t207 ≤ t206 then (if t207 ≤ (wrap64 (-t206)) then (rushlightlaw01_WordDivides.j0 k a0 a1 t203 t204 (t207 != 0)) else (rushlightlaw01_WordDivides.j0 k a0 a1 t203 t204 false)) else (rushlightlaw01_WordDivides.j0 k a0 a1 t203 t204 false))) else (if t207 ≤ t206 then (if t207 ≤ (wrap64 (-t206)) then (rushlightlaw01_WordDivides.j0 k a0 a1 t203 t204 (t207 != 0)) else (rushlightlaw01_WordDivides.j0 k a0 a1 t203 t204 false)) else (rushlightlaw01_WordDivides.j0 k a0 a1 t203 t204 false)))) else (if t207 ≥ t206 then (if t207 ≥ (wrap64 (-t206)) then (rushlightlaw01_WordDivides.j0 k a0 a1 t203 t204 true) else (if t207 ≤ t206 then (if t207 ≤ (wrap64 (-t206)) then (rushlightlaw01_WordDivides.j0 k a0 a1 t203 t204 (t207 != 0)) else (rushlightlaw01_WordDivides.j0 k a0 a1 t203 t204 false)) else (rushlightlaw01_WordDivides.j0 k a0 a1 t203 t204 false))) else (if t207 ≤ t206 then (if t207 ≤ (wrap64 (-t206)) then (rushlightlaw01_WordDivides.j0 k a0 a1 t203 t204 (t207 != 0)) else (rushlightlaw01_WordDivides.j0 k a0 a1 t203 t204 false)) else (rushlightlaw01_WordDivides.j0 k a0 a1 t203 t204 false))))))) = some r := H
    have A7 := Aside0.mk A70
    clear A70
    replace H := Option.bind_eq_some_iff.mp H
    obtain ⟨t206, A80, H⟩ := H
    replace H : ((rushlightref01_Signed.f t203).bind fun t207 => (if t205 ≥ 0 then (if t207 < 0 then (rushlightlaw01_WordDivides.j0 k a0 a1 t203 t204 true) else (if t205 ≤ 0 then (if t207 > 0 then (rushlightlaw01_WordDivides.j0 k a0 a1 t203 t204 true) else (if t207 ≥ t206 then (if t207 ≥ (wrap64 (-t206)) then (rushlightlaw01_WordDivides.j0 k a0 a1 t203 t204 true) else (if t207 ≤ t206 then (if t207 ≤ (wrap64 (-t206)) then (rushlightlaw01_WordDivides.j0 k a0 a1 t203 t204 (t207 != 0)) else (rushlightlaw01_WordDivides.j0 k a0 a1 t203 t204 false)) else (rushlightlaw01_WordDivides.j0 k a0 a1 t203 t204 false))) else (if t207 ≤ t206 then (if t207 ≤ (wrap64 (-t206)) then (rushlightlaw01_WordDivides.j0 k a0 a1 t203 t204 (t207 != 0)) else (rushlightlaw01_WordDivides.j0 k a0 a1 t203 t204 false)) else (rushlightlaw01_WordDivides.j0 k a0 a1 t203 t204 false)))) else (if t207 ≥ t206 then (if t207 ≥ (wrap64 (-t206)) then (rushlightlaw01_WordDivides.j0 k a0 a1 t203 t204 true) else (if t207 ≤ t206 then (if t207 ≤ (wrap64 (-t206)) then (rushlightlaw01_WordDivides.j0 k a0 a1 t203 t204 (t207 != 0)) else (rushlightlaw01_WordDivides.j0 k a0 a1 t203 t204 false)) else (rushlightlaw01_WordDivides.j0 k a0 a1 t203 t204 false))) else (if t207 ≤ t206 then (if t207 ≤ (wrap64 (-t206)) then (rushlightlaw01_WordDivides.j0 k a0 a1 t203 t204 (t207 != 0)) else (rushlightlaw01_WordDivides.j0 k a0 a1 t203 t204 false)) else (rushlightlaw01_WordDivides.j0 k a0 a1 t203 t204 false))))) else (if t205 ≤ 0 then (if t207 > 0 then (rushlightlaw01_WordDivides.j0 k a0 a1 t203 t204 true) else (if t207 ≥ t206 then (if t207 ≥ (wrap64 (-t206)) then (rushlightlaw01_WordDivides.j0 k a0 a1 t203 t204 true) else (if t207 ≤ t206 then (if t207 ≤ (wrap64 (-t206)) then (rushlightlaw01_WordDivides.j0 k a0 a1 t203 t204 (t207 != 0)) else (rushlightlaw01_WordDivides.j0 k a0 a1 t203 t204 false)) else (rushlightlaw01_WordDivides.j0 k a0 a1 t203 t204 false))) else (if t207 ≤ t206 then (if t207 ≤ (wrap64 (-t206)) then (rushlightlaw01_WordDivides.j0 k a0 a1 t203 t204 (t207 != 0)) else (rushlightlaw01_WordDivides.j0 k a0 a1 t203 t204 false)) else (rushlightlaw01_WordDivides.j0 k a0 a1 t203 t204 false)))) else (if t207 ≥ t206 then (if t207 ≥ (wrap64 (-t206)) then (rushlightlaw01_WordDivides.j0 k a0 a1 t203 t204 true) else (if t207 ≤ t206 then (if t207 ≤ (wrap64 (-t206)) then (rushlightlaw01_WordDivides.j0 k a0 a1 t203 t204 (t207 != 0)) else (rushlightlaw01_WordDivides.j0 k a0 a1 t203 t204 false)) else (rushlightlaw01_WordDivides.j0 k a0 a1 t203 t204 false))) else (if t207 ≤ t206 then (if t207 ≤ (wrap64 (-t206)) then (rushlightlaw01_WordDivides.j0 k a0 a1 t203 t204 (t207 != 0)) else (rushlightlaw01_WordDivides.j0 k a0 a1 t203 t204 false)) else (rushlightlaw01_WordDivides.j0 k a0 a1 t203 t204 false)))))) = some r := H
    have A8 := Aside0.mk A80
    clear A80
    replace H := Option.bind_eq_some_iff.mp H
    obtain ⟨t207, A90, H⟩ := H
    replace H : (if t205 ≥ 0 then (if t207 < 0 then (rushlightlaw01_WordDivides.j0 k a0 a1 t203 t204 true) else (if t205 ≤ 0 then (if t207 > 0 then (rushlightlaw01_WordDivides.j0 k a0 a1 t203 t204 true) else (if t207 ≥ t206 then (if t207 ≥ (wrap64 (-t206)) then (rushlightlaw01_WordDivides.j0 k a0 a1 t203 t204 true) else (if t207 ≤ t206 then (if t207 ≤ (wrap64 (-t206)) then (rushlightlaw01_WordDivides.j0 k a0 a1 t203 t204 (t207 != 0)) else (rushlightlaw01_WordDivides.j0 k a0 a1 t203 t204 false)) else (rushlightlaw01_WordDivides.j0 k a0 a1 t203 t204 false))) else (if t207 ≤ t206 then (if t207 ≤ (wrap64 (-t206)) then (rushlightlaw01_WordDivides.j0 k a0 a1 t203 t204 (t207 != 0)) else (rushlightlaw01_WordDivides.j0 k a0 a1 t203 t204 false)) else (rushlightlaw01_WordDivides.j0 k a0 a1 t203 t204 false)))) else (if t207 ≥ t206 then (if t207 ≥ (wrap64 (-t206)) then (rushlightlaw01_WordDivides.j0 k a0 a1 t203 t204 true) else (if t207 ≤ t206 then (if t207 ≤ (wrap64 (-t206)) then (rushlightlaw01_WordDivides.j0 k a0 a1 t203 t204 (t207 != 0)) else (rushlightlaw01_WordDivides.j0 k a0 a1 t203 t204 false)) else (rushlightlaw01_WordDivides.j0 k a0 a1 t203 t204 false))) else (if t207 ≤ t206 then (if t207 ≤ (wrap64 (-t206)) then (rushlightlaw01_WordDivides.j0 k a0 a1 t203 t204 (t207 != 0)) else (rushlightlaw01_WordDivides.j0 k a0 a1 t203 t204 false)) else (rushlightlaw01_WordDivides.j0 k a0 a1 t203 t204 false))))) else (if t205 ≤ 0 then (if t207 > 0 then (rushlightlaw01_WordDivides.j0 k a0 a1 t203 t204 true) else (if t207 ≥ t206 then (if t207 ≥ (wrap64 (-t206)) then (rushlightlaw01_WordDivides.j0 k a0 a1 t203 t204 true) else (if t207 ≤ t206 then (if t207 ≤ (wrap64 (-t206)) then (rushlightlaw01_WordDivides.j0 k a0 a1 t203 t204 (t207 != 0)) else (rushlightlaw01_WordDivides.j0 k a0 a1 t203 t204 false)) else (rushlightlaw01_WordDivides.j0 k a0 a1 t203 t204 false))) else (if t207 ≤ t206 then (if t207 ≤ (wrap64 (-t206)) then (rushlightlaw01_WordDivides.j0 k a0 a1 t203 t204 (t207 != 0)) else (rushlightlaw01_WordDivides.j0 k a0 a1 t203 t204 false)) else (rushlightlaw01_WordDivides.j0 k a0 a1 t203 t204 false)))) else (if t207 ≥ t206 then (if t207 ≥ (wrap64 (-t206)) then (rushlightlaw01_WordDivides.j0 k a0 a1 t203 t204 true) else (if t207 ≤ t206 then (if t207 ≤ (wrap64 (-t206)) then (rushlightlaw01_WordDivides.j0 k a0 a1 t203 t204 (t207 != 0)) else (rushlightlaw01_WordDivides.j0 k a0 a1 t203 t204 false)) else (rushlightlaw01_WordDivides.j0 k a0 a1 t203 t204 false))) else (if t207 ≤ t206 then (if t207 ≤ (wrap64 (-t206)) then (rushlightlaw01_WordDivides.j0 k a0 a1 t203 t204 (t207 != 0)) else (rushlightlaw01_WordDivides.j0 k a0 a1 t203 t204 false)) else (rushlightlaw01_WordDivides.j0 k a0 a1 t203 t204 false))))) = some r := H
    have A9 := Aside0.mk A90
    clear A90
    have HC10 := Aside0.mk H
    clear H
    go_enter Try.func10, Try.ntmps10
    go_upto_region 5 with (first | (go_at_call 41; (with_reducible refine (word_Rem.calls a0 a1 t203 _ A5.out).mono ?_); rintro e w' ⟨rfl, ⟨nd, rfl⟩⟩) | (go_at_call 45; (with_reducible refine (word_RemU.calls a0 a1 t204 _ A6.out).mono ?_); rintro e w' ⟨rfl, ⟨nd, rfl⟩⟩) | (go_at_call 34; (with_reducible refine (rushlightref01_Signed.calls a0 t205 _ A7.out).mono ?_); rintro e w' ⟨rfl, ⟨nd, rfl⟩⟩) | (go_at_call 34; (with_reducible refine (rushlightref01_Signed.calls a1 t206 _ A8.out).mono ?_); rintro e w' ⟨rfl, ⟨nd, rfl⟩⟩) | (go_at_call 34; (with_reducible refine (rushlightref01_Signed.calls t203 t207 _ A9.out).mono ?_); rintro e w' ⟨rfl, ⟨nd, rfl⟩⟩))
    (try simp only [Act.put, List.setIfInBounds_toArray, List.set_cons_zero, List.set_cons_succ])
    go_cut [64] (fun v64 wc => ∃ (kq : Nat) (x64_9 : Bool), v64 = .bool x64_9 ∧ Aside0 (rushlightlaw01_WordDivides.j0 kq a0 a1 t203 t204 x64_9 = some r) ∧ Aside0 (kq ≤ k) ∧ Drawn0 w wc)
    case first =>
      have H := HC10.out
      clear HC10
      by_cases c11 : t205 ≥ 0
      · rw [if_pos c11] at H
        have c11b0 : decide (0 ≤ t205) = true := decide_eq_true c11
        clear c11
        (first | rw [c11b0] | (simp only [i64_w, i32_w]; rw [c11b0]) | skip)
        by_cases c12 : t207 < 0
        · rw [if_pos c12] at H
          have c12b0 : decide (t207 < 0) = true := decide_eq_true c12
          clear c12
          have H' := Aside0.mk H
          clear H
          go_wp2
          go_meet
          case rel => exact ⟨_, (true), (by first | rfl | (simp; done) | (simp [*]; done)), H', ⟨by first | omega | exact Nat.le_refl _⟩, by repeat (first | exact Drawn0.refl _ | apply Drawn0.step)⟩
        · rw [if_neg c12] at H
          have c12b0 : decide (t207 < 0) = false := decide_eq_false c12
          clear c12
          by_cases c13 : t205 ≤ 0
          · rw [if_pos c13] at H
            have c13b0 : decide (t205 ≤ 0) = true := decide_eq_true c13
            clear c13
            by_cases c14 : t207 > 0
            · rw [if_pos c14] at H
              have c14b0 : decide (0 < t207) = true := decide_eq_true c14
              clear c14
              have H' := Aside0.mk H
              clear H
              go_wp2
              go_meet
              case rel => exact ⟨_, (true), (by first | rfl | (simp; done) | (simp [*]; done)), H', ⟨by first | omega | exact Nat.le_refl _⟩, by repeat (first | exact Drawn0.refl _ | apply Drawn0.step)⟩
            · rw [if_neg c14] at H
              have c14b0 : decide (0 < t207) = false := decide_eq_false c14
              clear c14
              by_cases c15 : t207 ≥ t206
              · rw [if_pos c15] at H
                have c15b0 : decide (t206 ≤ t207) = true := decide_eq_true c15
                clear c15
                by_cases c16 : t207 ≥ (wrap64 (-t206))
                · rw [if_pos c16] at H
                  have c16b0 : decide ((wrap64 (-t206)) ≤ t207) = true := decide_eq_true c16
                  clear c16
                  have H' := Aside0.mk H
                  clear H
                  go_wp2
                  go_meet
                  case rel => exact ⟨_, (true), (by first | rfl | (simp; done) | (simp [*]; done)), H', ⟨by first | omega | exact Nat.le_refl _⟩, by repeat (first | exact Drawn0.refl _ | apply Drawn0.step)⟩
                · rw [if_neg c16] at H
                  have c16b0 : decide ((wrap64 (-t206)) ≤ t207) = false := decide_eq_false c16
                  clear c16
                  by_cases c17 : t207 ≤ t206
                  · rw [if_pos c17] at H
                    have c17b0 : decide (t207 ≤ t206) = true := decide_eq_true c17
                    clear c17
                    by_cases c18 : t207 ≤ (wrap64 (-t206))
                    · rw [if_pos c18] at H
                      have c18b0 : decide (t207 ≤ (wrap64 (-t206))) = true := decide_eq_true c18
                      clear c18
                      have H' := Aside0.mk H
                      clear H
                      go_wp2
                      go_meet
                      case rel => exact ⟨_, ((t207 != 0)), (by first | rfl | (simp; done) | (simp [*]; done)), H', ⟨by first | omega | exact Nat.le_refl _⟩, by repeat (first | exact Drawn0.refl _ | apply Drawn0.step)⟩
                    · rw [if_neg c18] at H
                      have c18b0 : decide (t207 ≤ (wrap64 (-t206))) = false := decide_eq_false c18
                      clear c18
                      have H' := Aside0.mk H
                      clear H
                      go_wp2
                      go_meet
                      case rel => exact ⟨_, (false), (by first | rfl | (simp; done) | (simp [*]; done)), H', ⟨by first | omega | exact Nat.le_refl _⟩, by repeat (first | exact Drawn0.refl _ | apply Drawn0.step)⟩
                  · rw [if_neg c17] at H
                    have c17b0 : decide (t207 ≤ t206) = false := decide_eq_false c17
                    clear c17
                    have H' := Aside0.mk H
                    clear H
                    go_wp2
                    go_meet
                    case rel => exact ⟨_, (false), (by first | rfl | (simp; done) | (simp [*]; done)), H', ⟨by first | omega | exact Nat.le_refl _⟩, by repeat (first | exact Drawn0.refl _ | apply Drawn0.step)⟩
              · rw [if_neg c15] at H
                have c15b0 : decide (t206 ≤ t207) = false := decide_eq_false c15
                clear c15
                by_cases c19 : t207 ≤ t206
                · rw [if_pos c19] at H
                  have c19b0 : decide (t207 ≤ t206) = true := decide_eq_true c19
                  clear c19
                  by_cases c20 : t207 ≤ (wrap64 (-t206))
                  · rw [if_pos c20] at H
                    have c20b0 : decide (t207 ≤ (wrap64 (-t206))) = true := decide_eq_true c20
                    clear c20
                    have H' := Aside0.mk H
                    clear H
                    go_wp2
                    go_meet
                    case rel => exact ⟨_, ((t207 != 0)), (by first | rfl | (simp; done) | (simp [*]; done)), H', ⟨by first | omega | exact Nat.le_refl _⟩, by repeat (first | exact Drawn0.refl _ | apply Drawn0.step)⟩
                  · rw [if_neg c20] at H
                    have c20b0 : decide (t207 ≤ (wrap64 (-t206))) = false := decide_eq_false c20
                    clear c20
                    have H' := Aside0.mk H
                    clear H
                    go_wp2
                    go_meet
                    case rel => exact ⟨_, (false), (by first | rfl | (simp; done) | (simp [*]; done)), H', ⟨by first | omega | exact Nat.le_refl _⟩, by repeat (first | exact Drawn0.refl _ | apply Drawn0.step)⟩
                · rw [if_neg c19] at H
                  have c19b0 : decide (t207 ≤ t206) = false := decide_eq_false c19
                  clear c19
                  have H' := Aside0.mk H
                  clear H
                  go_wp2
                  go_meet
                  case rel => exact ⟨_, (false), (by first | rfl | (simp; done) | (simp [*]; done)), H', ⟨by first | omega | exact Nat.le_refl _⟩, by repeat (first | exact Drawn0.refl _ | apply Drawn0.step)⟩
          · rw [if_neg c13] at H
            have c13b0 : decide (t205 ≤ 0) = false := decide_eq_false c13
            clear c13
            by_cases c21 : t207 ≥ t206
            · rw [if_pos c21] at H
              have c21b0 : decide (t206 ≤ t207) = true := decide_eq_true c21
              clear c21
              by_cases c22 : t207 ≥ (wrap64 (-t206))
              · rw [if_pos c22] at H
                have c22b0 : decide ((wrap64 (-t206)) ≤ t207) = true := decide_eq_true c22
                clear c22
                have H' := Aside0.mk H
                clear H
                go_wp2
                go_meet
                case rel => exact ⟨_, (true), (by first | rfl | (simp; done) | (simp [*]; done)), H', ⟨by first | omega | exact Nat.le_refl _⟩, by repeat (first | exact Drawn0.refl _ | apply Drawn0.step)⟩
              · rw [if_neg c22] at H
                have c22b0 : decide ((wrap64 (-t206)) ≤ t207) = false := decide_eq_false c22
                clear c22
                by_cases c23 : t207 ≤ t206
                · rw [if_pos c23] at H
                  have c23b0 : decide (t207 ≤ t206) = true := decide_eq_true c23
                  clear c23
                  by_cases c24 : t207 ≤ (wrap64 (-t206))
                  · rw [if_pos c24] at H
                    have c24b0 : decide (t207 ≤ (wrap64 (-t206))) = true := decide_eq_true c24
                    clear c24
                    have H' := Aside0.mk H
                    clear H
                    go_wp2
                    go_meet
                    case rel => exact ⟨_, ((t207 != 0)), (by first | rfl | (simp; done) | (simp [*]; done)), H', ⟨by first | omega | exact Nat.le_refl _⟩, by repeat (first | exact Drawn0.refl _ | apply Drawn0.step)⟩
                  · rw [if_neg c24] at H
                    have c24b0 : decide (t207 ≤ (wrap64 (-t206))) = false := decide_eq_false c24
                    clear c24
                    have H' := Aside0.mk H
                    clear H
                    go_wp2
                    go_meet
                    case rel => exact ⟨_, (false), (by first | rfl | (simp; done) | (simp [*]; done)), H', ⟨by first | omega | exact Nat.le_refl _⟩, by repeat (first | exact Drawn0.refl _ | apply Drawn0.step)⟩
                · rw [if_neg c23] at H
                  have c23b0 : decide (t207 ≤ t206) = false := decide_eq_false c23
                  clear c23
                  have H' := Aside0.mk H
                  clear H
                  go_wp2
                  go_meet
                  case rel => exact ⟨_, (false), (by first | rfl | (simp; done) | (simp [*]; done)), H', ⟨by first | omega | exact Nat.le_refl _⟩, by repeat (first | exact Drawn0.refl _ | apply Drawn0.step)⟩
            · rw [if_neg c21] at H
              have c21b0 : decide (t206 ≤ t207) = false := decide_eq_false c21
              clear c21
              by_cases c25 : t207 ≤ t206
              · rw [if_pos c25] at H
                have c25b0 : decide (t207 ≤ t206) = true := decide_eq_true c25
                clear c25
                by_cases c26 : t207 ≤ (wrap64 (-t206))
                · rw [if_pos c26] at H
                  have c26b0 : decide (t207 ≤ (wrap64 (-t206))) = true := decide_eq_true c26
                  clear c26
                  have H' := Aside0.mk H
                  clear H
                  go_wp2
                  go_meet
                  case rel => exact ⟨_, ((t207 != 0)), (by first | rfl | (simp; done) | (simp [*]; done)), H', ⟨by first | omega | exact Nat.le_refl _⟩, by repeat (first | exact Drawn0.refl _ | apply Drawn0.step)⟩
                · rw [if_neg c26] at H
                  have c26b0 : decide (t207 ≤ (wrap64 (-t206))) = false := decide_eq_false c26
                  clear c26
                  have H' := Aside0.mk H
                  clear H
                  go_wp2
                  go_meet
                  case rel => exact ⟨_, (false), (by first | rfl | (simp; done) | (simp [*]; done)), H', ⟨by first | omega | exact Nat.le_refl _⟩, by repeat (first | exact Drawn0.refl _ | apply Drawn0.step)⟩
              · rw [if_neg c25] at H
                have c25b0 : decide (t207 ≤ t206) = false := decide_eq_false c25
                clear c25
                have H' := Aside0.mk H
                clear H
                go_wp2
                go_meet
                case rel => exact ⟨_, (false), (by first | rfl | (simp; done) | (simp [*]; done)), H', ⟨by first | omega | exact Nat.le_refl _⟩, by repeat (first | exact Drawn0.refl _ | apply Drawn0.step)⟩
      · rw [if_neg c11] at H
        have c11b0 : decide (0 ≤ t205) = false := decide_eq_false c11
        clear c11
        (first | rw [c11b0] | (simp only [i64_w, i32_w]; rw [c11b0]) | skip)
        by_cases c27 : t205 ≤ 0
        · rw [if_pos c27] at H
          have c27b0 : decide (t205 ≤ 0) = true := decide_eq_true c27
          clear c27
          by_cases c28 : t207 > 0
          · rw [if_pos c28] at H
            have c28b0 : decide (0 < t207) = true := decide_eq_true c28
            clear c28
            have H' := Aside0.mk H
            clear H
            go_wp2
            go_meet
            case rel => exact ⟨_, (true), (by first | rfl | (simp; done) | (simp [*]; done)), H', ⟨by first | omega | exact Nat.le_refl _⟩, by repeat (first | exact Drawn0.refl _ | apply Drawn0.step)⟩
          · rw [if_neg c28] at H
            have c28b0 : decide (0 < t207) = false := decide_eq_false c28
            clear c28
            by_cases c29 : t207 ≥ t206
            · rw [if_pos c29] at H
              have c29b0 : decide (t206 ≤ t207) = true := decide_eq_true c29
              clear c29
              by_cases c30 : t207 ≥ (wrap64 (-t206))
              · rw [if_pos c30] at H
                have c30b0 : decide ((wrap64 (-t206)) ≤ t207) = true := decide_eq_true c30
                clear c30
                have H' := Aside0.mk H
                clear H
                go_wp2
                go_meet
                case rel => exact ⟨_, (true), (by first | rfl | (simp; done) | (simp [*]; done)), H', ⟨by first | omega | exact Nat.le_refl _⟩, by repeat (first | exact Drawn0.refl _ | apply Drawn0.step)⟩
              · rw [if_neg c30] at H
                have c30b0 : decide ((wrap64 (-t206)) ≤ t207) = false := decide_eq_false c30
                clear c30
                by_cases c31 : t207 ≤ t206
                · rw [if_pos c31] at H
                  have c31b0 : decide (t207 ≤ t206) = true := decide_eq_true c31
                  clear c31
                  by_cases c32 : t207 ≤ (wrap64 (-t206))
                  · rw [if_pos c32] at H
                    have c32b0 : decide (t207 ≤ (wrap64 (-t206))) = true := decide_eq_true c32
                    clear c32
                    have H' := Aside0.mk H
                    clear H
                    go_wp2
                    go_meet
                    case rel => exact ⟨_, ((t207 != 0)), (by first | rfl | (simp; done) | (simp [*]; done)), H', ⟨by first | omega | exact Nat.le_refl _⟩, by repeat (first | exact Drawn0.refl _ | apply Drawn0.step)⟩
                  · rw [if_neg c32] at H
                    have c32b0 : decide (t207 ≤ (wrap64 (-t206))) = false := decide_eq_false c32
                    clear c32
                    have H' := Aside0.mk H
                    clear H
                    go_wp2
                    go_meet
                    case rel => exact ⟨_, (false), (by first | rfl | (simp; done) | (simp [*]; done)), H', ⟨by first | omega | exact Nat.le_refl _⟩, by repeat (first | exact Drawn0.refl _ | apply Drawn0.step)⟩
                · rw [if_neg c31] at H
                  have c31b0 : decide (t207 ≤ t206) = false := decide_eq_false c31
                  clear c31
                  have H' := Aside0.mk H
                  clear H
                  go_wp2
                  go_meet
                  case rel => exact ⟨_, (false), (by first | rfl | (simp; done) | (simp [*]; done)), H', ⟨by first | omega | exact Nat.le_refl _⟩, by repeat (first | exact Drawn0.refl _ | apply Drawn0.step)⟩
            · rw [if_neg c29] at H
              have c29b0 : decide (t206 ≤ t207) = false := decide_eq_false c29
              clear c29
              by_cases c33 : t207 ≤ t206
              · rw [if_pos c33] at H
                have c33b0 : decide (t207 ≤ t206) = true := decide_eq_true c33
                clear c33
                by_cases c34 : t207 ≤ (wrap64 (-t206))
                · rw [if_pos c34] at H
                  have c34b0 : decide (t207 ≤ (wrap64 (-t206))) = true := decide_eq_true c34
                  clear c34
                  have H' := Aside0.mk H
                  clear H
                  go_wp2
                  go_meet
                  case rel => exact ⟨_, ((t207 != 0)), (by first | rfl | (simp; done) | (simp [*]; done)), H', ⟨by first | omega | exact Nat.le_refl _⟩, by repeat (first | exact Drawn0.refl _ | apply Drawn0.step)⟩
                · rw [if_neg c34] at H
                  have c34b0 : decide (t207 ≤ (wrap64 (-t206))) = false := decide_eq_false c34
                  clear c34
                  have H' := Aside0.mk H
                  clear H
                  go_wp2
                  go_meet
                  case rel => exact ⟨_, (false), (by first | rfl | (simp; done) | (simp [*]; done)), H', ⟨by first | omega | exact Nat.le_refl _⟩, by repeat (first | exact Drawn0.refl _ | apply Drawn0.step)⟩
              · rw [if_neg c33] at H
                have c33b0 : decide (t207 ≤ t206) = false := decide_eq_false c33
                clear c33
                have H' := Aside0.mk H
                clear H
                go_wp2
                go_meet
                case rel => exact ⟨_, (false), (by first | rfl | (simp; done) | (simp [*]; done)), H', ⟨by first | omega | exact Nat.le_refl _⟩, by repeat (first | exact Drawn0.refl _ | apply Drawn0.step)⟩
        · rw [if_neg c27] at H
          have c27b0 : decide (t205 ≤ 0) = false := decide_eq_false c27
          clear c27
          by_cases c35 : t207 ≥ t206
          · rw [if_pos c35] at H
            have c35b0 : decide (t206 ≤ t207) = true := decide_eq_true c35
            clear c35
            by_cases c36 : t207 ≥ (wrap64 (-t206))
            · rw [if_pos c36] at H
              have c36b0 : decide ((wrap64 (-t206)) ≤ t207) = true := decide_eq_true c36
              clear c36
              have H' := Aside0.mk H
              clear H
              go_wp2
              go_meet
              case rel => exact ⟨_, (true), (by first | rfl | (simp; done) | (simp [*]; done)), H', ⟨by first | omega | exact Nat.le_refl _⟩, by repeat (first | exact Drawn0.refl _ | apply Drawn0.step)⟩
            · rw [if_neg c36] at H
              have c36b0 : decide ((wrap64 (-t206)) ≤ t207) = false := decide_eq_false c36
              clear c36
              by_cases c37 : t207 ≤ t206
              · rw [if_pos c37] at H
                have c37b0 : decide (t207 ≤ t206) = true := decide_eq_true c37
                clear c37
                by_cases c38 : t207 ≤ (wrap64 (-t206))
                · rw [if_pos c38] at H
                  have c38b0 : decide (t207 ≤ (wrap64 (-t206))) = true := decide_eq_true c38
                  clear c38
                  have H' := Aside0.mk H
                  clear H
                  go_wp2
                  go_meet
                  case rel => exact ⟨_, ((t207 != 0)), (by first | rfl | (simp; done) | (simp [*]; done)), H', ⟨by first | omega | exact Nat.le_refl _⟩, by repeat (first | exact Drawn0.refl _ | apply Drawn0.step)⟩
                · rw [if_neg c38] at H
                  have c38b0 : decide (t207 ≤ (wrap64 (-t206))) = false := decide_eq_false c38
                  clear c38
                  have H' := Aside0.mk H
                  clear H
                  go_wp2
                  go_meet
                  case rel => exact ⟨_, (false), (by first | rfl | (simp; done) | (simp [*]; done)), H', ⟨by first | omega | exact Nat.le_refl _⟩, by repeat (first | exact Drawn0.refl _ | apply Drawn0.step)⟩
              · rw [if_neg c37] at H
                have c37b0 : decide (t207 ≤ t206) = false := decide_eq_false c37
                clear c37
                have H' := Aside0.mk H
                clear H
                go_wp2
                go_meet
                case rel => exact ⟨_, (false), (by first | rfl | (simp; done) | (simp [*]; done)), H', ⟨by first | omega | exact Nat.le_refl _⟩, by repeat (first | exact Drawn0.refl _ | apply Drawn0.step)⟩
          · rw [if_neg c35] at H
            have c35b0 : decide (t206 ≤ t207) = false := decide_eq_false c35
            clear c35
            by_cases c39 : t207 ≤ t206
            · rw [if_pos c39] at H
              have c39b0 : decide (t207 ≤ t206) = true := decide_eq_true c39
              clear c39
              by_cases c40 : t207 ≤ (wrap64 (-t206))
              · rw [if_pos c40] at H
                have c40b0 : decide (t207 ≤ (wrap64 (-t206))) = true := decide_eq_true c40
                clear c40
                have H' := Aside0.mk H
                clear H
                go_wp2
                go_meet
                case rel => exact ⟨_, ((t207 != 0)), (by first | rfl | (simp; done) | (simp [*]; done)), H', ⟨by first | omega | exact Nat.le_refl _⟩, by repeat (first | exact Drawn0.refl _ | apply Drawn0.step)⟩
              · rw [if_neg c40] at H
                have c40b0 : decide (t207 ≤ (wrap64 (-t206))) = false := decide_eq_false c40
                clear c40
                have H' := Aside0.mk H
                clear H
                go_wp2
                go_meet
                case rel => exact ⟨_, (false), (by first | rfl | (simp; done) | (simp [*]; done)), H', ⟨by first | omega | exact Nat.le_refl _⟩, by repeat (first | exact Drawn0.refl _ | apply Drawn0.step)⟩
            · rw [if_neg c39] at H
              have c39b0 : decide (t207 ≤ t206) = false := decide_eq_false c39
              clear c39
              have H' := Aside0.mk H
              clear H
              go_wp2
              go_meet
              case rel => exact ⟨_, (false), (by first | rfl | (simp; done) | (simp [*]; done)), H', ⟨by first | omega | exact Nat.le_refl _⟩, by repeat (first | exact Drawn0.refl _ | apply Drawn0.step)⟩
    case rest =>
      clear HC10
      try clear c1
      try clear c2
      try clear p2
      try clear c3
      try clear c3b0
      try clear c3b1
      try clear c4
      try clear p6
      try clear c10
      try clear c11
      try clear c11b0
      try clear c12
      try clear c12b0
      try clear c13
      try clear c13b0
      try clear c14
      try clear c14b0
      try clear c15
      try clear c15b0
      try clear c16
      try clear c16b0
      try clear c17
      try clear c17b0
      try clear c18
      try clear c18b0
      try clear c19
      try clear c19b0
      try clear c20
      try clear c20b0
      try clear c21
      try clear c21b0
      try clear c22
      try clear c22b0
      try clear c23
      try clear c23b0
      try clear c24
      try clear c24b0
      try clear c25
      try clear c25b0
      try clear c26
      try clear c26b0
      try clear c27
      try clear c27b0
      try clear c28
      try clear c28b0
      try clear c29
      try clear c29b0
      try clear c30
      try clear c30b0
      try clear c31
      try clear c31b0
      try clear c32
      try clear c32b0
      try clear c33
      try clear c33b0
      try clear c34
      try clear c34b0
      try clear c35
      try clear c35b0
      try clear c36
      try clear c36b0
      try clear c37
      try clear c37b0
      try clear c38
      try clear c38b0
      try clear c39
      try clear c39b0
      try clear c40
      try clear c40b0
      obtain ⟨kq, x64_9, rfl, HA, HJ9, ⟨mc9, rfl⟩⟩ := hcut
      cases kq with
      | zero => exact absurd HA.out (by simp [rushlightlaw01_WordDivides.j0])
      | succ kj9 =>
        have H := HA.out
        clear HA
        simp only [rushlightlaw01_WordDivides.j0] at H
        by_cases c41 : x64_9 = true
        · subst c41
          have H1 : (some false) = some r := by rw [if_pos rfl] at H; exact H
          clear H
          have H := H1
          clear H1
          obtain rfl := Option.some.inj H
          go_wp2
          go_ret
          exact ⟨by first | rfl | (simp; done) | (simp [*]; done), by repeat (first | exact Drawn0.refl _ | apply Drawn0.step)⟩
        · replace c41 := Bool.eq_false_iff.mpr c41
          subst c41
          have H1 : ((rushlightlaw01_awake.f).bind fun t208 => (if t208 = true then ((word_Div.f a0 a1).bind fun t209 => ((word_Mul.f t209 a1).bind fun t210 => ((word_Add.f t210 t203).bind fun t211 => (if t211 = a0 then ((word_DivU.f a0 a1).bind fun t212 => ((word_Mul.f t212 a1).bind fun t213 => ((word_Add.f t213 t204).bind fun t214 => (if t214 = a0 then (some (decide (t204 < a1))) else (some false))))) else (some false))))) else (some false))) = some r := by rw [if_neg (show ¬ (false = true) by decide)] at H; exact H
          clear H
          have H := H1
          clear H1
          replace H := Option.bind_eq_some_iff.mp H
          obtain ⟨t208, A420, H⟩ := H
          replace H : (if t208 = true then ((word_Div.f a0 a1).bind fun t209 => ((word_Mul.f t209 a1).bind fun t210 => ((word_Add.f t210 t203).bind fun t211 => (if t211 = a0 then ((word_DivU.f a0 a1).bind fun t212 => ((word_Mul.f t212 a1).bind fun t213 => ((word_Add.f t213 t204).bind fun t214 => (if t214 = a0 then (some (decide (t204 < a1))) else (some false))))) else (some false))))) else (some false)) = some r := H
          have A42 := Aside0.mk A420
          clear A420
          by_cases c43 : t208 = true
          · subst c43
            have H1 : ((word_Div.f a0 a1).bind fun t209 => ((word_Mul.f t209 a1).bind fun t210 => ((word_Add.f t210 t203).bind fun t211 => (if t211 = a0 then ((word_DivU.f a0 a1).bind fun t212 => ((word_Mul.f t212 a1).bind fun t213 => ((word_Add.f t213 t204).bind fun t214 => (if t214 = a0 then (some (decide (t204 < a1))) else (some false))))) else (some false))))) = some r := by rw [if_pos rfl] at H; exact H
            clear H
            have H := H1
            clear H1
            replace H := Option.bind_eq_some_iff.mp H
            obtain ⟨t209, A440, H⟩ := H
            replace H : ((word_Mul.f t209 a1).bind fun t210 => ((word_Add.f t210 t203).bind fun t211 => (if t211 = a0 then ((word_DivU.f a0 a1).bind fun t212 => ((word_Mul.f t212 a1).bind fun t213 => ((word_Add.f t213 t204).bind fun t214 => (if t214 = a0 then (some (decide (t204 < a1))) else (some false))))) else (some false)))) = some r := H
            have A44 := Aside0.mk A440
            clear A440
            replace H := Option.bind_eq_some_iff.mp H
            obtain ⟨t210, A450, H⟩ := H
            replace H : ((word_Add.f t210 t203).bind fun t211 => (if t211 = a0 then ((word_DivU.f a0 a1).bind fun t212 => ((word_Mul.f t212 a1).bind fun t213 => ((word_Add.f t213 t204).bind fun t214 => (if t214 = a0 then (some (decide (t204 < a1))) else (some false))))) else (some false))) = some r := H
            have A45 := Aside0.mk A450
            clear A450
            replace H := Option.bind_eq_some_iff.mp H
            obtain ⟨t211, A460, H⟩ := H
            replace H : (if t211 = a0 then ((word_DivU.f a0 a1).bind fun t212 => ((word_Mul.f t212 a1).bind fun t213 => ((word_Add.f t213 t204).bind fun t214 => (if t214 = a0 then (some (decide (t204 < a1))) else (some false))))) else (some false)) = some r := H
            have A46 := Aside0.mk A460
            clear A460
            by_cases c47 : t211 = a0
            · rw [if_pos c47] at H
              have c47b0 : (t211 == a0) = true := beq_iff_eq.mpr c47
              have c47b1 : (t211 != a0) = false := bne_eq_false_iff_eq.mpr c47
              clear c47
              replace H := Option.bind_eq_some_iff.mp H
              obtain ⟨t212, A480, H⟩ := H
              replace H : ((word_Mul.f t212 a1).bind fun t213 => ((word_Add.f t213 t204).bind fun t214 => (if t214 = a0 then (some (decide (t204 < a1))) else (some false)))) = some r := H
              have A48 := Aside0.mk A480
              clear A480
              replace H := Option.bind_eq_some_iff.mp H
              obtain ⟨t213, A490, H⟩ := H
              replace H : ((word_Add.f t213 t204).bind fun t214 => (if t214 = a0 then (some (decide (t204 < a1))) else (some false))) = some r := H
              have A49 := Aside0.mk A490
              clear A490
              replace H := Option.bind_eq_some_iff.mp H
              obtain ⟨t214, A500, H⟩ := H
              replace H : (if t214 = a0 then (some (decide (t204 < a1))) else (some false)) = some r := H
              have A50 := Aside0.mk A500
              clear A500
              by_cases c51 : t214 = a0
              · rw [if_pos c51] at H
                have c51b0 : (t214 == a0) = true := beq_iff_eq.mpr c51
                have c51b1 : (t214 != a0) = false := bne_eq_false_iff_eq.mpr c51
                clear c51
                obtain rfl := Option.some.inj H
                go_wp2_with (first | (go_at_call 12; (with_reducible refine (rushlightlaw01_awake.calls  true _ A42.out).mono ?_); rintro e w' ⟨rfl, ⟨nd, rfl⟩⟩) | (go_at_call 39; (with_reducible refine (word_Div.calls a0 a1 t209 _ A44.out).mono ?_); rintro e w' ⟨rfl, ⟨nd, rfl⟩⟩) | (go_at_call 26; (with_reducible refine (word_Mul.calls t209 a1 t210 _ A45.out).mono ?_); rintro e w' ⟨rfl, ⟨nd, rfl⟩⟩) | (go_at_call 22; (with_reducible refine (word_Add.calls t210 t203 t211 _ A46.out).mono ?_); rintro e w' ⟨rfl, ⟨nd, rfl⟩⟩) | (go_at_call 43; (with_reducible refine (word_DivU.calls a0 a1 t212 _ A48.out).mono ?_); rintro e w' ⟨rfl, ⟨nd, rfl⟩⟩) | (go_at_call 26; (with_reducible refine (word_Mul.calls t212 a1 t213 _ A49.out).mono ?_); rintro e w' ⟨rfl, ⟨nd, rfl⟩⟩) | (go_at_call 22; (with_reducible refine (word_Add.calls t213 t204 t214 _ A50.out).mono ?_); rintro e w' ⟨rfl, ⟨nd, rfl⟩⟩))
                go_ret
                exact ⟨by first | rfl | (simp; done) | (simp [*]; done), by repeat (first | exact Drawn0.refl _ | apply Drawn0.step)⟩
              · rw [if_neg c51] at H
                have c51b0 : (t214 == a0) = false := beq_eq_false_iff_ne.mpr c51
                have c51b1 : (t214 != a0) = true := bne_iff_ne.mpr c51
                obtain rfl := Option.some.inj H
                go_wp2_with (first | (go_at_call 12; (with_reducible refine (rushlightlaw01_awake.calls  true _ A42.out).mono ?_); rintro e w' ⟨rfl, ⟨nd, rfl⟩⟩) | (go_at_call 39; (with_reducible refine (word_Div.calls a0 a1 t209 _ A44.out).mono ?_); rintro e w' ⟨rfl, ⟨nd, rfl⟩⟩) | (go_at_call 26; (with_reducible refine (word_Mul.calls t209 a1 t210 _ A45.out).mono ?_); rintro e w' ⟨rfl, ⟨nd, rfl⟩⟩) | (go_at_call 22; (with_reducible refine (word_Add.calls t210 t203 t211 _ A46.out).mono ?_); rintro e w' ⟨rfl, ⟨nd, rfl⟩⟩) | (go_at_call 43; (with_reducible refine (word_DivU.calls a0 a1 t212 _ A48.out).mono ?_); rintro e w' ⟨rfl, ⟨nd, rfl⟩⟩) | (go_at_call 26; (with_reducible refine (word_Mul.calls t212 a1 t213 _ A49.out).mono ?_); rintro e w' ⟨rfl, ⟨nd, rfl⟩⟩) | (go_at_call 22; (with_reducible refine (word_Add.calls t213 t204 t214 _ A50.out).mono ?_); rintro e w' ⟨rfl, ⟨nd, rfl⟩⟩))
                go_ret
                exact ⟨by first | rfl | (simp; done) | (simp [*]; done), by repeat (first | exact Drawn0.refl _ | apply Drawn0.step)⟩
            · rw [if_neg c47] at H
              have c47b0 : (t211 == a0) = false := beq_eq_false_iff_ne.mpr c47
              have c47b1 : (t211 != a0) = true := bne_iff_ne.mpr c47
              obtain rfl := Option.some.inj H
              go_wp2_with (first | (go_at_call 12; (with_reducible refine (rushlightlaw01_awake.calls  true _ A42.out).mono ?_); rintro e w' ⟨rfl, ⟨nd, rfl⟩⟩) | (go_at_call 39; (with_reducible refine (word_Div.calls a0 a1 t209 _ A44.out).mono ?_); rintro e w' ⟨rfl, ⟨nd, rfl⟩⟩) | (go_at_call 26; (with_reducible refine (word_Mul.calls t209 a1 t210 _ A45.out).mono ?_); rintro e w' ⟨rfl, ⟨nd, rfl⟩⟩) | (go_at_call 22; (with_reducible refine (word_Add.calls t210 t203 t211 _ A46.out).mono ?_); rintro e w' ⟨rfl, ⟨nd, rfl⟩⟩))
              go_ret
              exact ⟨by first | rfl | (simp; done) | (simp [*]; done), by repeat (first | exact Drawn0.refl _ | apply Drawn0.step)⟩
          · replace c43 := Bool.eq_false_iff.mpr c43
            subst c43
            have H1 : (some false) = some r := by rw [if_neg (show ¬ (false = true) by decide)] at H; exact H
            clear H
            have H := H1
            clear H1
            obtain rfl := Option.some.inj H
            go_wp2_with (first | (go_at_call 12; (with_reducible refine (rushlightlaw01_awake.calls  false _ A42.out).mono ?_); rintro e w' ⟨rfl, ⟨nd, rfl⟩⟩))
            go_ret
            exact ⟨by first | rfl | (simp; done) | (simp [*]; done), by repeat (first | exact Drawn0.refl _ | apply Drawn0.step)⟩

/-- THE ONE PURE STATEMENT of rushlightlaw01_WordDivides: yours. -/
def rushlightlaw01_WordDivides.Pure : Prop := ∀ (a0 : Int) (a1 : Int), (Lit.int .u32 a0).wf = true → (Lit.int .u32 a1).wf = true → ∃ k, rushlightlaw01_WordDivides.f k a0 a1 = some true
theorem rushlightlaw01_WordDivides.walk (P : rushlightlaw01_WordDivides.Pure) (a0 : Int) (a1 : Int) (w : World) (w0 : (Lit.int .u32 a0).wf = true) (w1 : (Lit.int .u32 a1).wf = true) :
    Calls Try.prog 10 #[.int .u32 a0, .int .u32 a1] w fun e w' => e = .returned (.bool true) ∧ Below w.heap.size w w' := by
  obtain ⟨k, h⟩ := P a0 a1 w0 w1
  refine (rushlightlaw01_WordDivides.calls k a0 a1 true w h).mono ?_
  rintro e w' ⟨rfl, hd⟩
  exact ⟨rfl, hd.below⟩

end Go.Proofs.Ytoinjjlefckhhaa.All
