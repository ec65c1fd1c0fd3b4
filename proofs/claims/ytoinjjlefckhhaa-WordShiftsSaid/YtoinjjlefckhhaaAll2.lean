-- Written by this session's own program (wip/tools/myprint.py over the kit's printer), functions proved by hand among them. Not trusted: Lean checks it.
import Derived.Test.YtoinjjlefckhhaaAll0
import Derived.Test.YtoinjjlefckhhaaAll1
namespace Go.Proofs.Ytoinjjlefckhhaa.All
open Go.RowKit Go.Proofs.YtoinjjlefckhhaaW.PrintWords Go.Proofs.YtoinjjlefckhhaaW.PrintLast Go.Proofs.YtoinjjlefckhhaaW.PrintMore
attribute [local go_sem] max2_int min2_int max_two min_two max_three min_three max_four min_four   -- for this text's walks alone
set_option linter.unusedVariables false
set_option linter.unusedSimpArgs false

/-! ### rushlightref01_RightS: function 21 -/
def rushlightref01_RightS.f (k : Nat) (a0 : Int) (a1 : Int) : Option (Int) := (rushlightref01_Signed.f a0).bind fun t123 => ((rushlightref01_power.f k a1).bind fun t124 => (if t124 = 0 then (none) else (if t123 < 0 then (if (wrap64 ((wrap64 (Int.tdiv t123 t124)) * t124)) = t123 then ((rushlightref01_Cut.f (wrap64 (Int.tdiv t123 t124))).bind fun t125 => (some t125)) else ((rushlightref01_Cut.f (wrap64 ((wrap64 (Int.tdiv t123 t124)) - 1))).bind fun t126 => (some t126))) else ((rushlightref01_Cut.f (wrap64 (Int.tdiv t123 t124))).bind fun t127 => (some t127)))))
theorem rushlightref01_RightS.mono : ∀ a0 a1 k, LeO (rushlightref01_RightS.f k a0 a1) (rushlightref01_RightS.f (k + 1) a0 a1) := by
  intro a0 a1 k
  unfold rushlightref01_RightS.f
  repeat' first
      | (with_reducible exact rushlightref01_power.mono _ _)
      | (with_reducible exact LeO.refl _)
      | (with_reducible exact LeO.none _)
      | (with_reducible refine LeO.ite ?_ ?_)
      | (with_reducible refine LeO.bind ?_ (fun _ => ?_))
      | exact rushlightref01_power.mono _ _
      | exact LeO.none _
      | refine LeO.ite ?_ ?_
      | refine LeO.bind ?_ (fun _ => ?_)
set_option maxHeartbeats 8000000 in
set_option maxRecDepth 100000 in
theorem rushlightref01_RightS.calls (k : Nat) (a0 : Int) (a1 : Int) (r : Int) (w : World) (h : rushlightref01_RightS.f k a0 a1 = some r) :
    Calls Try.prog 21 #[.int .u32 a0, .int .u32 a1] w fun e w' => e = .returned (.int .u32 r) ∧ Drawn0 w w' := by
  have H : ((rushlightref01_Signed.f a0).bind fun t123 => ((rushlightref01_power.f k a1).bind fun t124 => (if t124 = 0 then (none) else (if t123 < 0 then (if (wrap64 ((wrap64 (Int.tdiv t123 t124)) * t124)) = t123 then ((rushlightref01_Cut.f (wrap64 (Int.tdiv t123 t124))).bind fun t125 => (some t125)) else ((rushlightref01_Cut.f (wrap64 ((wrap64 (Int.tdiv t123 t124)) - 1))).bind fun t126 => (some t126))) else ((rushlightref01_Cut.f (wrap64 (Int.tdiv t123 t124))).bind fun t127 => (some t127)))))) = some r := h
  clear h
  replace H := Option.bind_eq_some_iff.mp H
  obtain ⟨t123, A30, H⟩ := H
  replace H : ((rushlightref01_power.f k a1).bind fun t124 => (if t124 = 0 then (none) else (if t123 < 0 then (if (wrap64 ((wrap64 (Int.tdiv t123 t124)) * t124)) = t123 then ((rushlightref01_Cut.f (wrap64 (Int.tdiv t123 t124))).bind fun t125 => (some t125)) else ((rushlightref01_Cut.f (wrap64 ((wrap64 (Int.tdiv t123 t124)) - 1))).bind fun t126 => (some t126))) else ((rushlightref01_Cut.f (wrap64 (Int.tdiv t123 t124))).bind fun t127 => (some t127))))) = some r := H
  have A3 := Aside0.mk A30
  clear A30
  replace H := Option.bind_eq_some_iff.mp H
  obtain ⟨t124, A40, H⟩ := H
  replace H : (if t124 = 0 then (none) else (if t123 < 0 then (if (wrap64 ((wrap64 (Int.tdiv t123 t124)) * t124)) = t123 then ((rushlightref01_Cut.f (wrap64 (Int.tdiv t123 t124))).bind fun t125 => (some t125)) else ((rushlightref01_Cut.f (wrap64 ((wrap64 (Int.tdiv t123 t124)) - 1))).bind fun t126 => (some t126))) else ((rushlightref01_Cut.f (wrap64 (Int.tdiv t123 t124))).bind fun t127 => (some t127)))) = some r := H
  have A4 := Aside0.mk A40
  clear A40
  by_cases c5 : t124 = 0
  · rw [if_pos c5] at H
    exact absurd H (by simp)
  · rw [if_neg c5] at H
    have c5b0 : (t124 == 0) = false := beq_eq_false_iff_ne.mpr c5
    have c5b1 : (t124 != 0) = true := bne_iff_ne.mpr c5
    by_cases c6 : t123 < 0
    · rw [if_pos c6] at H
      have c6b0 : decide (t123 < 0) = true := decide_eq_true c6
      clear c6
      by_cases c7 : (wrap64 ((wrap64 (Int.tdiv t123 t124)) * t124)) = t123
      · rw [if_pos c7] at H
        have c7b0 : ((wrap64 ((wrap64 (Int.tdiv t123 t124)) * t124)) == t123) = true := beq_iff_eq.mpr c7
        have c7b1 : ((wrap64 ((wrap64 (Int.tdiv t123 t124)) * t124)) != t123) = false := bne_eq_false_iff_eq.mpr c7
        clear c7
        replace H := Option.bind_eq_some_iff.mp H
        obtain ⟨t125, A80, H⟩ := H
        replace H : (some t125) = some r := H
        have A8 := Aside0.mk A80
        clear A80
        obtain rfl := Option.some.inj H
        go_enter Try.func21, Try.ntmps21
        go_wp2_with (first | (go_at_call 34; (with_reducible refine (rushlightref01_Signed.calls a0 t123 _ A3.out).mono ?_); rintro e w' ⟨rfl, ⟨nd, rfl⟩⟩) | (go_at_call 49; (with_reducible refine (rushlightref01_power.calls k a1 t124 _ A4.out).mono ?_); rintro e w' ⟨rfl, ⟨nd, rfl⟩⟩) | (go_at_call 48; (with_reducible refine (rushlightref01_Cut.calls (wrap64 (Int.tdiv t123 t124)) t125 _ A8.out).mono ?_); rintro e w' ⟨rfl, ⟨nd, rfl⟩⟩))
        go_ret
        exact ⟨by first | rfl | (simp; done) | (simp [*]; done), by repeat (first | exact Drawn0.refl _ | apply Drawn0.step)⟩
      · rw [if_neg c7] at H
        have c7b0 : ((wrap64 ((wrap64 (Int.tdiv t123 t124)) * t124)) == t123) = false := beq_eq_false_iff_ne.mpr c7
        have c7b1 : ((wrap64 ((wrap64 (Int.tdiv t123 t124)) * t124)) != t123) = true := bne_iff_ne.mpr c7
        replace H := Option.bind_eq_some_iff.mp H
        obtain ⟨t126, A90, H⟩ := H
        replace H : (some t126) = some r := H
        have A9 := Aside0.mk A90
        clear A90
        obtain rfl := Option.some.inj H
        go_enter Try.func21, Try.ntmps21
        go_wp2_with (first | (go_at_call 34; (with_reducible refine (rushlightref01_Signed.calls a0 t123 _ A3.out).mono ?_); rintro e w' ⟨rfl, ⟨nd, rfl⟩⟩) | (go_at_call 49; (with_reducible refine (rushlightref01_power.calls k a1 t124 _ A4.out).mono ?_); rintro e w' ⟨rfl, ⟨nd, rfl⟩⟩) | (go_at_call 48; (with_reducible refine (rushlightref01_Cut.calls (wrap64 ((wrap64 (Int.tdiv t123 t124)) - 1)) t126 _ A9.out).mono ?_); rintro e w' ⟨rfl, ⟨nd, rfl⟩⟩))
        go_ret
        exact ⟨by first | rfl | (simp; done) | (simp [*]; done), by repeat (first | exact Drawn0.refl _ | apply Drawn0.step)⟩
    · rw [if_neg c6] at H
      have c6b0 : decide (t123 < 0) = false := decide_eq_false c6
      clear c6
      replace H := Option.bind_eq_some_iff.mp H
      obtain ⟨t127, A100, H⟩ := H
      replace H : (some t127) = some r := H
      have A10 := Aside0.mk A100
      clear A100
      obtain rfl := Option.some.inj H
      go_enter Try.func21, Try.ntmps21
      go_wp2_with (first | (go_at_call 34; (with_reducible refine (rushlightref01_Signed.calls a0 t123 _ A3.out).mono ?_); rintro e w' ⟨rfl, ⟨nd, rfl⟩⟩) | (go_at_call 49; (with_reducible refine (rushlightref01_power.calls k a1 t124 _ A4.out).mono ?_); rintro e w' ⟨rfl, ⟨nd, rfl⟩⟩) | (go_at_call 48; (with_reducible refine (rushlightref01_Cut.calls (wrap64 (Int.tdiv t123 t124)) t127 _ A10.out).mono ?_); rintro e w' ⟨rfl, ⟨nd, rfl⟩⟩))
      go_ret
      exact ⟨by first | rfl | (simp; done) | (simp [*]; done), by repeat (first | exact Drawn0.refl _ | apply Drawn0.step)⟩

/-! ### rushlightlaw01_WordShifts: function 4 -/
def rushlightlaw01_WordShifts.f (k : Nat) (a0 : Int) (a1 : Int) : Option (Bool) := (rushlightlaw01_awake.f).bind fun t128 => (if t128 = true then ((word_Left.f a0 a1).bind fun t129 => ((rushlightref01_Left.f k a0 a1).bind fun t130 => (if t129 = t130 then ((word_Right.f a0 a1).bind fun t131 => ((rushlightref01_Right.f k a0 a1).bind fun t132 => (if t131 = t132 then ((word_RightS.f a0 a1).bind fun t133 => ((rushlightref01_RightS.f k a0 a1).bind fun t134 => (some (t133 == t134)))) else (some false)))) else (some false)))) else (some false))
theorem rushlightlaw01_WordShifts.mono : ∀ a0 a1 k, LeO (rushlightlaw01_WordShifts.f k a0 a1) (rushlightlaw01_WordShifts.f (k + 1) a0 a1) := by
  intro a0 a1 k
  unfold rushlightlaw01_WordShifts.f
  repeat' first
      | (with_reducible exact rushlightref01_Left.mono _ _ _)
      | (with_reducible exact rushlightref01_Right.mono _ _ _)
      | (with_reducible exact rushlightref01_RightS.mono _ _ _)
      | (with_reducible exact LeO.refl _)
      | (with_reducible exact LeO.none _)
      | (with_reducible refine LeO.ite ?_ ?_)
      | (with_reducible refine LeO.bind ?_ (fun _ => ?_))
      | exact rushlightref01_Left.mono _ _ _
      | exact rushlightref01_Right.mono _ _ _
      | exact rushlightref01_RightS.mono _ _ _
      | exact LeO.none _
      | refine LeO.ite ?_ ?_
      | refine LeO.bind ?_ (fun _ => ?_)
set_option maxHeartbeats 8000000 in
set_option maxRecDepth 100000 in
theorem rushlightlaw01_WordShifts.calls (k : Nat) (a0 : Int) (a1 : Int) (r : Bool) (w : World) (h : rushlightlaw01_WordShifts.f k a0 a1 = some r) :
    Calls Try.prog 4 #[.int .u32 a0, .int .u32 a1] w fun e w' => e = .returned (.bool r) ∧ Drawn0 w w' := by
  have H : ((rushlightlaw01_awake.f).bind fun t128 => (if t128 = true then ((word_Left.f a0 a1).bind fun t129 => ((rushlightref01_Left.f k a0 a1).bind fun t130 => (if t129 = t130 then ((word_Right.f a0 a1).bind fun t131 => ((rushlightref01_Right.f k a0 a1).bind fun t132 => (if t131 = t132 then ((word_RightS.f a0 a1).bind fun t133 => ((rushlightref01_RightS.f k a0 a1).bind fun t134 => (some (t133 == t134)))) else (some false)))) else (some false)))) else (some false))) = some r := h
  clear h
  replace H := Option.bind_eq_some_iff.mp H
  obtain ⟨t128, A30, H⟩ := H
  replace H : (if t128 = true then ((word_Left.f a0 a1).bind fun t129 => ((rushlightref01_Left.f k a0 a1).bind fun t130 => (if t129 = t130 then ((word_Right.f a0 a1).bind fun t131 => ((rushlightref01_Right.f k a0 a1).bind fun t132 => (if t131 = t132 then ((word_RightS.f a0 a1).bind fun t133 => ((rushlightref01_RightS.f k a0 a1).bind fun t134 => (some (t133 == t134)))) else (some false)))) else (some false)))) else (some false)) = some r := H
  have A3 := Aside0.mk A30
  clear A30
  by_cases c4 : t128 = true
  · subst c4
    have H1 : ((word_Left.f a0 a1).bind fun t129 => ((rushlightref01_Left.f k a0 a1).bind fun t130 => (if t129 = t130 then ((word_Right.f a0 a1).bind fun t131 => ((rushlightref01_Right.f k a0 a1).bind fun t132 => (if t131 = t132 then ((word_RightS.f a0 a1).bind fun t133 => ((rushlightref01_RightS.f k a0 a1).bind fun t134 => (some (t133 == t134)))) else (some false)))) else (some false)))) = some r := by rw [if_pos rfl] at H; exact H
    clear H
    have H := H1
    clear H1
    replace H := Option.bind_eq_some_iff.mp H
    obtain ⟨t129, A50, H⟩ := H
    replace H : ((rushlightref01_Left.f k a0 a1).bind fun t130 => (if t129 = t130 then ((word_Right.f a0 a1).bind fun t131 => ((rushlightref01_Right.f k a0 a1).bind fun t132 => (if t131 = t132 then ((word_RightS.f a0 a1).bind fun t133 => ((rushlightref01_RightS.f k a0 a1).bind fun t134 => (some (t133 == t134)))) else (some false)))) else (some false))) = some r := H
    have A5 := Aside0.mk A50
    clear A50
    replace H := Option.bind_eq_some_iff.mp H
    obtain ⟨t130, A60, H⟩ := H
    replace H : (if t129 = t130 then ((word_Right.f a0 a1).bind fun t131 => ((rushlightref01_Right.f k a0 a1).bind fun t132 => (if t131 = t132 then ((word_RightS.f a0 a1).bind fun t133 => ((rushlightref01_RightS.f k a0 a1).bind fun t134 => (some (t133 == t134)))) else (some false)))) else (some false)) = some r := H
    have A6 := Aside0.mk A60
    clear A60
    by_cases c7 : t129 = t130
    · rw [if_pos c7] at H
      have c7b0 : (t129 == t130) = true := beq_iff_eq.mpr c7
      have c7b1 : (t129 != t130) = false := bne_eq_false_iff_eq.mpr c7
      clear c7
      replace H := Option.bind_eq_some_iff.mp H
      obtain ⟨t131, A80, H⟩ := H
      replace H : ((rushlightref01_Right.f k a0 a1).bind fun t132 => (if t131 = t132 then ((word_RightS.f a0 a1).bind fun t133 => ((rushlightref01_RightS.f k a0 a1).bind fun t134 => (some (t133 == t134)))) else (some false))) = some r := H
      have A8 := Aside0.mk A80
      clear A80
      replace H := Option.bind_eq_some_iff.mp H
      obtain ⟨t132, A90, H⟩ := H
      replace H : (if t131 = t132 then ((word_RightS.f a0 a1).bind fun t133 => ((rushlightref01_RightS.f k a0 a1).bind fun t134 => (some (t133 == t134)))) else (some false)) = some r := H
      have A9 := Aside0.mk A90
      clear A90
      by_cases c10 : t131 = t132
      · rw [if_pos c10] at H
        have c10b0 : (t131 == t132) = true := beq_iff_eq.mpr c10
        have c10b1 : (t131 != t132) = false := bne_eq_false_iff_eq.mpr c10
        clear c10
        replace H := Option.bind_eq_some_iff.mp H
        obtain ⟨t133, A110, H⟩ := H
        replace H : ((rushlightref01_RightS.f k a0 a1).bind fun t134 => (some (t133 == t134))) = some r := H
        have A11 := Aside0.mk A110
        clear A110
        replace H := Option.bind_eq_some_iff.mp H
        obtain ⟨t134, A120, H⟩ := H
        replace H : (some (t133 == t134)) = some r := H
        have A12 := Aside0.mk A120
        clear A120
        obtain rfl := Option.some.inj H
        go_enter Try.func4, Try.ntmps4
        go_wp2_with (first | (go_at_call 12; (with_reducible refine (rushlightlaw01_awake.calls  true _ A3.out).mono ?_); rintro e w' ⟨rfl, ⟨nd, rfl⟩⟩) | (go_at_call 16; (with_reducible refine (word_Left.calls a0 a1 t129 _ A5.out).mono ?_); rintro e w' ⟨rfl, ⟨nd, rfl⟩⟩) | (go_at_call 17; (with_reducible refine (rushlightref01_Left.calls k a0 a1 t130 _ A6.out).mono ?_); rintro e w' ⟨rfl, ⟨nd, rfl⟩⟩) | (go_at_call 18; (with_reducible refine (word_Right.calls a0 a1 t131 _ A8.out).mono ?_); rintro e w' ⟨rfl, ⟨nd, rfl⟩⟩) | (go_at_call 19; (with_reducible refine (rushlightref01_Right.calls k a0 a1 t132 _ A9.out).mono ?_); rintro e w' ⟨rfl, ⟨nd, rfl⟩⟩) | (go_at_call 20; (with_reducible refine (word_RightS.calls a0 a1 t133 _ A11.out).mono ?_); rintro e w' ⟨rfl, ⟨nd, rfl⟩⟩) | (go_at_call 21; (with_reducible refine (rushlightref01_RightS.calls k a0 a1 t134 _ A12.out).mono ?_); rintro e w' ⟨rfl, ⟨nd, rfl⟩⟩))
        go_ret
        exact ⟨by first | rfl | (simp; done) | (simp [*]; done), by repeat (first | exact Drawn0.refl _ | apply Drawn0.step)⟩
      · rw [if_neg c10] at H
        have c10b0 : (t131 == t132) = false := beq_eq_false_iff_ne.mpr c10
        have c10b1 : (t131 != t132) = true := bne_iff_ne.mpr c10
        obtain rfl := Option.some.inj H
        go_enter Try.func4, Try.ntmps4
        go_wp2_with (first | (go_at_call 12; (with_reducible refine (rushlightlaw01_awake.calls  true _ A3.out).mono ?_); rintro e w' ⟨rfl, ⟨nd, rfl⟩⟩) | (go_at_call 16; (with_reducible refine (word_Left.calls a0 a1 t129 _ A5.out).mono ?_); rintro e w' ⟨rfl, ⟨nd, rfl⟩⟩) | (go_at_call 17; (with_reducible refine (rushlightref01_Left.calls k a0 a1 t130 _ A6.out).mono ?_); rintro e w' ⟨rfl, ⟨nd, rfl⟩⟩) | (go_at_call 18; (with_reducible refine (word_Right.calls a0 a1 t131 _ A8.out).mono ?_); rintro e w' ⟨rfl, ⟨nd, rfl⟩⟩) | (go_at_call 19; (with_reducible refine (rushlightref01_Right.calls k a0 a1 t132 _ A9.out).mono ?_); rintro e w' ⟨rfl, ⟨nd, rfl⟩⟩))
        go_ret
        exact ⟨by first | rfl | (simp; done) | (simp [*]; done), by repeat (first | exact Drawn0.refl _ | apply Drawn0.step)⟩
    · rw [if_neg c7] at H
      have c7b0 : (t129 == t130) = false := beq_eq_false_iff_ne.mpr c7
      have c7b1 : (t129 != t130) = true := bne_iff_ne.mpr c7
      obtain rfl := Option.some.inj H
      go_enter Try.func4, Try.ntmps4
      go_wp2_with (first | (go_at_call 12; (with_reducible refine (rushlightlaw01_awake.calls  true _ A3.out).mono ?_); rintro e w' ⟨rfl, ⟨nd, rfl⟩⟩) | (go_at_call 16; (with_reducible refine (word_Left.calls a0 a1 t129 _ A5.out).mono ?_); rintro e w' ⟨rfl, ⟨nd, rfl⟩⟩) | (go_at_call 17; (with_reducible refine (rushlightref01_Left.calls k a0 a1 t130 _ A6.out).mono ?_); rintro e w' ⟨rfl, ⟨nd, rfl⟩⟩))
      go_ret
      exact ⟨by first | rfl | (simp; done) | (simp [*]; done), by repeat (first | exact Drawn0.refl _ | apply Drawn0.step)⟩
  · replace c4 := Bool.eq_false_iff.mpr c4
    subst c4
    have H1 : (some false) = some r := by rw [if_neg (show ¬ (false = true) by decide)] at H; exact H
    clear H
    have H := H1
    clear H1
    obtain rfl := Option.some.inj H
    go_enter Try.func4, Try.ntmps4
    go_wp2_with (first | (go_at_call 12; (with_reducible refine (rushlightlaw01_awake.calls  false _ A3.out).mono ?_); rintro e w' ⟨rfl, ⟨nd, rfl⟩⟩))
    go_ret
    exact ⟨by first | rfl | (simp; done) | (simp [*]; done), by repeat (first | exact Drawn0.refl _ | apply Drawn0.step)⟩

/-- THE ONE PURE STATEMENT of rushlightlaw01_WordShifts: yours. -/
def rushlightlaw01_WordShifts.Pure : Prop := ∀ (a0 : Int) (a1 : Int), (Lit.int .u32 a0).wf = true → (Lit.int .u32 a1).wf = true → ∃ k, rushlightlaw01_WordShifts.f k a0 a1 = some true
theorem rushlightlaw01_WordShifts.walk (P : rushlightlaw01_WordShifts.Pure) (a0 : Int) (a1 : Int) (w : World) (w0 : (Lit.int .u32 a0).wf = true) (w1 : (Lit.int .u32 a1).wf = true) :
    Calls Try.prog 4 #[.int .u32 a0, .int .u32 a1] w fun e w' => e = .returned (.bool true) ∧ Below w.heap.size w w' := by
  obtain ⟨k, h⟩ := P a0 a1 w0 w1
  refine (rushlightlaw01_WordShifts.calls k a0 a1 true w h).mono ?_
  rintro e w' ⟨rfl, hd⟩
  exact ⟨rfl, hd.below⟩

/-! ### word_Add: function 22 -/
def word_Add.f (a0 : Int) (a1 : Int) : Option (Int) := some ((a0 + a1) % 4294967296)
set_option maxHeartbeats 8000000 in
set_option maxRecDepth 100000 in
theorem word_Add.calls (a0 : Int) (a1 : Int) (r : Int) (w : World) (h : word_Add.f a0 a1 = some r) :
    Calls Try.prog 22 #[.int .u32 a0, .int .u32 a1] w fun e w' => e = .returned (.int .u32 r) ∧ Drawn0 w w' := by
  have H : (some ((a0 + a1) % 4294967296)) = some r := h
  clear h
  obtain rfl := Option.some.inj H
  go_enter Try.func22, Try.ntmps22
  go_wp2
  go_ret
  exact ⟨by first | rfl | (simp; done) | (simp [*]; done), by repeat (first | exact Drawn0.refl _ | apply Drawn0.step)⟩

/-! ### rushlightref01_Add: function 23 -/
def rushlightref01_Add.f (a0 : Int) (a1 : Int) : Option (Int) := (rushlightref01_Cut.f (wrap64 ((wrap64 (a0)) + (wrap64 (a1))))).bind fun t135 => (some t135)
set_option maxHeartbeats 8000000 in
set_option maxRecDepth 100000 in
theorem rushlightref01_Add.calls (a0 : Int) (a1 : Int) (r : Int) (w : World) (h : rushlightref01_Add.f a0 a1 = some r) :
    Calls Try.prog 23 #[.int .u32 a0, .int .u32 a1] w fun e w' => e = .returned (.int .u32 r) ∧ Drawn0 w w' := by
  have H : ((rushlightref01_Cut.f (wrap64 ((wrap64 (a0)) + (wrap64 (a1))))).bind fun t135 => (some t135)) = some r := h
  clear h
  replace H := Option.bind_eq_some_iff.mp H
  obtain ⟨t135, A30, H⟩ := H
  replace H : (some t135) = some r := H
  have A3 := Aside0.mk A30
  clear A30
  obtain rfl := Option.some.inj H
  go_enter Try.func23, Try.ntmps23
  go_wp2_with (first | (go_at_call 48; (with_reducible refine (rushlightref01_Cut.calls (wrap64 ((wrap64 (a0)) + (wrap64 (a1)))) t135 _ A3.out).mono ?_); rintro e w' ⟨rfl, ⟨nd, rfl⟩⟩))
  go_ret
  exact ⟨by first | rfl | (simp; done) | (simp [*]; done), by repeat (first | exact Drawn0.refl _ | apply Drawn0.step)⟩

/-! ### word_Sub: function 24 -/
def word_Sub.f (a0 : Int) (a1 : Int) : Option (Int) := some ((a0 - a1) % 4294967296)
set_option maxHeartbeats 8000000 in
set_option maxRecDepth 100000 in
theorem word_Sub.calls (a0 : Int) (a1 : Int) (r : Int) (w : World) (h : word_Sub.f a0 a1 = some r) :
    Calls Try.prog 24 #[.int .u32 a0, .int .u32 a1] w fun e w' => e = .returned (.int .u32 r) ∧ Drawn0 w w' := by
  have H : (some ((a0 - a1) % 4294967296)) = some r := h
  clear h
  obtain rfl := Option.some.inj H
  go_enter Try.func24, Try.ntmps24
  go_wp2
  go_ret
  exact ⟨by first | rfl | (simp; done) | (simp [*]; done), by repeat (first | exact Drawn0.refl _ | apply Drawn0.step)⟩

/-! ### rushlightref01_Sub: function 25 -/
def rushlightref01_Sub.f (a0 : Int) (a1 : Int) : Option (Int) := (rushlightref01_Cut.f (wrap64 ((wrap64 (a0)) - (wrap64 (a1))))).bind fun t136 => (some t136)
set_option maxHeartbeats 8000000 in
set_option maxRecDepth 100000 in
theorem rushlightref01_Sub.calls (a0 : Int) (a1 : Int) (r : Int) (w : World) (h : rushlightref01_Sub.f a0 a1 = some r) :
    Calls Try.prog 25 #[.int .u32 a0, .int .u32 a1] w fun e w' => e = .returned (.int .u32 r) ∧ Drawn0 w w' := by
  have H : ((rushlightref01_Cut.f (wrap64 ((wrap64 (a0)) - (wrap64 (a1))))).bind fun t136 => (some t136)) = some r := h
  clear h
  replace H := Option.bind_eq_some_iff.mp H
  obtain ⟨t136, A30, H⟩ := H
  replace H : (some t136) = some r := H
  have A3 := Aside0.mk A30
  clear A30
  obtain rfl := Option.some.inj H
  go_enter Try.func25, Try.ntmps25
  go_wp2_with (first | (go_at_call 48; (with_reducible refine (rushlightref01_Cut.calls (wrap64 ((wrap64 (a0)) - (wrap64 (a1)))) t136 _ A3.out).mono ?_); rintro e w' ⟨rfl, ⟨nd, rfl⟩⟩))
  go_ret
  exact ⟨by first | rfl | (simp; done) | (simp [*]; done), by repeat (first | exact Drawn0.refl _ | apply Drawn0.step)⟩

/-! ### word_Mul: function 26 -/
def word_Mul.f (a0 : Int) (a1 : Int) : Option (Int) := some ((a0 * a1) % 4294967296)
set_option maxHeartbeats 8000000 in
set_option maxRecDepth 100000 in
theorem word_Mul.calls (a0 : Int) (a1 : Int) (r : Int) (w : World) (h : word_Mul.f a0 a1 = some r) :
    Calls Try.prog 26 #[.int .u32 a0, .int .u32 a1] w fun e w' => e = .returned (.int .u32 r) ∧ Drawn0 w w' := by
  have H : (some ((a0 * a1) % 4294967296)) = some r := h
  clear h
  obtain rfl := Option.some.inj H
  go_enter Try.func26, Try.ntmps26
  go_wp2
  go_ret
  exact ⟨by first | rfl | (simp; done) | (simp [*]; done), by repeat (first | exact Drawn0.refl _ | apply Drawn0.step)⟩

/-! ### rushlightref01_half: function 50 -/
def rushlightref01_half.f (a0 : Int) (a1 : Int) : Option (Int × Int) := some ((wrap64 ((wrap64 ((wrap64 ((wrap64 (Int.tdiv (wrap64 (a0)) 65536)) * (wrap64 (Int.tdiv (wrap64 (a1)) 65536)))) + (wrap64 (Int.tdiv (wrap64 ((wrap64 ((wrap64 (Int.tdiv (wrap64 (a0)) 65536)) * (Int.tmod (wrap64 (a1)) 65536))) + (wrap64 (Int.tdiv (wrap64 ((Int.tmod (wrap64 (a0)) 65536) * (Int.tmod (wrap64 (a1)) 65536))) 65536)))) 65536)))) + (wrap64 (Int.tdiv (wrap64 ((wrap64 ((Int.tmod (wrap64 (a0)) 65536) * (wrap64 (Int.tdiv (wrap64 (a1)) 65536)))) + (Int.tmod (wrap64 ((wrap64 ((wrap64 (Int.tdiv (wrap64 (a0)) 65536)) * (Int.tmod (wrap64 (a1)) 65536))) + (wrap64 (Int.tdiv (wrap64 ((Int.tmod (wrap64 (a0)) 65536) * (Int.tmod (wrap64 (a1)) 65536))) 65536)))) 65536))) 65536)))) % 4294967296, (wrap64 ((wrap64 ((Int.tmod (wrap64 ((wrap64 ((Int.tmod (wrap64 (a0)) 65536) * (wrap64 (Int.tdiv (wrap64 (a1)) 65536)))) + (Int.tmod (wrap64 ((wrap64 ((wrap64 (Int.tdiv (wrap64 (a0)) 65536)) * (Int.tmod (wrap64 (a1)) 65536))) + (wrap64 (Int.tdiv (wrap64 ((Int.tmod (wrap64 (a0)) 65536) * (Int.tmod (wrap64 (a1)) 65536))) 65536)))) 65536))) 65536) * 65536)) + (Int.tmod (wrap64 ((Int.tmod (wrap64 (a0)) 65536) * (Int.tmod (wrap64 (a1)) 65536))) 65536))) % 4294967296)
set_option maxHeartbeats 8000000 in
set_option maxRecDepth 100000 in
theorem rushlightref01_half.calls (a0 : Int) (a1 : Int) (r1 : Int) (r2 : Int) (w : World) (h : rushlightref01_half.f a0 a1 = some (r1, r2)) :
    Calls Try.prog 50 #[.int .u32 a0, .int .u32 a1] w fun e w' => e = .returned (.tuple #[.int .u32 r1, .int .u32 r2]) ∧ Drawn0 w w' := by
  have H : (some ((wrap64 ((wrap64 ((wrap64 ((wrap64 (Int.tdiv (wrap64 (a0)) 65536)) * (wrap64 (Int.tdiv (wrap64 (a1)) 65536)))) + (wrap64 (Int.tdiv (wrap64 ((wrap64 ((wrap64 (Int.tdiv (wrap64 (a0)) 65536)) * (Int.tmod (wrap64 (a1)) 65536))) + (wrap64 (Int.tdiv (wrap64 ((Int.tmod (wrap64 (a0)) 65536) * (Int.tmod (wrap64 (a1)) 65536))) 65536)))) 65536)))) + (wrap64 (Int.tdiv (wrap64 ((wrap64 ((Int.tmod (wrap64 (a0)) 65536) * (wrap64 (Int.tdiv (wrap64 (a1)) 65536)))) + (Int.tmod (wrap64 ((wrap64 ((wrap64 (Int.tdiv (wrap64 (a0)) 65536)) * (Int.tmod (wrap64 (a1)) 65536))) + (wrap64 (Int.tdiv (wrap64 ((Int.tmod (wrap64 (a0)) 65536) * (Int.tmod (wrap64 (a1)) 65536))) 65536)))) 65536))) 65536)))) % 4294967296, (wrap64 ((wrap64 ((Int.tmod (wrap64 ((wrap64 ((Int.tmod (wrap64 (a0)) 65536) * (wrap64 (Int.tdiv (wrap64 (a1)) 65536)))) + (Int.tmod (wrap64 ((wrap64 ((wrap64 (Int.tdiv (wrap64 (a0)) 65536)) * (Int.tmod (wrap64 (a1)) 65536))) + (wrap64 (Int.tdiv (wrap64 ((Int.tmod (wrap64 (a0)) 65536) * (Int.tmod (wrap64 (a1)) 65536))) 65536)))) 65536))) 65536) * 65536)) + (Int.tmod (wrap64 ((Int.tmod (wrap64 (a0)) 65536) * (Int.tmod (wrap64 (a1)) 65536))) 65536))) % 4294967296)) = some (r1, r2) := h
  clear h
  simp only [Option.some.injEq, Prod.mk.injEq] at H
  obtain ⟨rfl, rfl⟩ := H
  go_enter Try.func50, Try.ntmps50
  go_wp2
  go_ret2
  exact ⟨by first | rfl | (simp; done) | (simp [*]; done), by repeat (first | exact Drawn0.refl _ | apply Drawn0.step)⟩

/-! ### rushlightref01_Mul: function 27 -/
def rushlightref01_Mul.f (a0 : Int) (a1 : Int) : Option (Int) := (rushlightref01_half.f a0 a1).bind fun bt137 => (some bt137.2)
set_option maxHeartbeats 8000000 in
set_option maxRecDepth 100000 in
theorem rushlightref01_Mul.calls (a0 : Int) (a1 : Int) (r : Int) (w : World) (h : rushlightref01_Mul.f a0 a1 = some r) :
    Calls Try.prog 27 #[.int .u32 a0, .int .u32 a1] w fun e w' => e = .returned (.int .u32 r) ∧ Drawn0 w w' := by
  have H : ((rushlightref01_half.f a0 a1).bind fun bt137 => (some bt137.2)) = some r := h
  clear h
  replace H := Option.bind_eq_some_iff.mp H
  obtain ⟨⟨t137, t138⟩, A30, H⟩ := H
  replace H : (some t138) = some r := H
  have A3 := Aside0.mk A30
  clear A30
  obtain rfl := Option.some.inj H
  go_enter Try.func27, Try.ntmps27
  go_wp2_with (first | (go_at_call 50; (with_reducible refine (rushlightref01_half.calls a0 a1 t137 t138 _ A3.out).mono ?_); rintro e w' ⟨rfl, ⟨nd, rfl⟩⟩))
  go_ret
  exact ⟨by first | rfl | (simp; done) | (simp [*]; done), by repeat (first | exact Drawn0.refl _ | apply Drawn0.step)⟩

/-! ### rushlightlaw01_WordSums: function 5 -/
def rushlightlaw01_WordSums.f (a0 : Int) (a1 : Int) : Option (Bool) := (rushlightlaw01_awake.f).bind fun t139 => (if t139 = true then ((word_Add.f a0 a1).bind fun t140 => ((rushlightref01_Add.f a0 a1).bind fun t141 => (if t140 = t141 then ((word_Sub.f a0 a1).bind fun t142 => ((rushlightref01_Sub.f a0 a1).bind fun t143 => (if t142 = t143 then ((word_Mul.f a0 a1).bind fun t144 => ((rushlightref01_Mul.f a0 a1).bind fun t145 => (some (t144 == t145)))) else (some false)))) else (some false)))) else (some false))
set_option maxHeartbeats 8000000 in
set_option maxRecDepth 100000 in
theorem rushlightlaw01_WordSums.calls (a0 : Int) (a1 : Int) (r : Bool) (w : World) (h : rushlightlaw01_WordSums.f a0 a1 = some r) :
    Calls Try.prog 5 #[.int .u32 a0, .int .u32 a1] w fun e w' => e = .returned (.bool r) ∧ Drawn0 w w' := by
  have H : ((rushlightlaw01_awake.f).bind fun t139 => (if t139 = true then ((word_Add.f a0 a1).bind fun t140 => ((rushlightref01_Add.f a0 a1).bind fun t141 => (if t140 = t141 then ((word_Sub.f a0 a1).bind fun t142 => ((rushlightref01_Sub.f a0 a1).bind fun t143 => (if t142 = t143 then ((word_Mul.f a0 a1).bind fun t144 => ((rushlightref01_Mul.f a0 a1).bind fun t145 => (some (t144 == t145)))) else (some false)))) else (some false)))) else (some false))) = some r := h
  clear h
  replace H := Option.bind_eq_some_iff.mp H
  obtain ⟨t139, A30, H⟩ := H
  replace H : (if t139 = true then ((word_Add.f a0 a1).bind fun t140 => ((rushlightref01_Add.f a0 a1).bind fun t141 => (if t140 = t141 then ((word_Sub.f a0 a1).bind fun t142 => ((rushlightref01_Sub.f a0 a1).bind fun t143 => (if t142 = t143 then ((word_Mul.f a0 a1).bind fun t144 => ((rushlightref01_Mul.f a0 a1).bind fun t145 => (some (t144 == t145)))) else (some false)))) else (some false)))) else (some false)) = some r := H
  have A3 := Aside0.mk A30
  clear A30
  by_cases c4 : t139 = true
  · subst c4
    have H1 : ((word_Add.f a0 a1).bind fun t140 => ((rushlightref01_Add.f a0 a1).bind fun t141 => (if t140 = t141 then ((word_Sub.f a0 a1).bind fun t142 => ((rushlightref01_Sub.f a0 a1).bind fun t143 => (if t142 = t143 then ((word_Mul.f a0 a1).bind fun t144 => ((rushlightref01_Mul.f a0 a1).bind fun t145 => (some (t144 == t145)))) else (some false)))) else (some false)))) = some r := by rw [if_pos rfl] at H; exact H
    clear H
    have H := H1
    clear H1
    replace H := Option.bind_eq_some_iff.mp H
    obtain ⟨t140, A50, H⟩ := H
    replace H : ((rushlightref01_Add.f a0 a1).bind fun t141 => (if t140 = t141 then ((word_Sub.f a0 a1).bind fun t142 => ((rushlightref01_Sub.f a0 a1).bind fun t143 => (if t142 = t143 then ((word_Mul.f a0 a1).bind fun t144 => ((rushlightref01_Mul.f a0 a1).bind fun t145 => (some (t144 == t145)))) else (some false)))) else (some false))) = some r := H
    have A5 := Aside0.mk A50
    clear A50
    replace H := Option.bind_eq_some_iff.mp H
    obtain ⟨t141, A60, H⟩ := H
    replace H : (if t140 = t141 then ((word_Sub.f a0 a1).bind fun t142 => ((rushlightref01_Sub.f a0 a1).bind fun t143 => (if t142 = t143 then ((word_Mul.f a0 a1).bind fun t144 => ((rushlightref01_Mul.f a0 a1).bind fun t145 => (some (t144 == t145)))) else (some false)))) else (some false)) = some r := H
    have A6 := Aside0.mk A60
    clear A60
    by_cases c7 : t140 = t141
    · rw [if_pos c7] at H
      have c7b0 : (t140 == t141) = true := beq_iff_eq.mpr c7
      have c7b1 : (t140 != t141) = false := bne_eq_false_iff_eq.mpr c7
      clear c7
      replace H := Option.bind_eq_some_iff.mp H
      obtain ⟨t142, A80, H⟩ := H
      replace H : ((rushlightref01_Sub.f a0 a1).bind fun t143 => (if t142 = t143 then ((word_Mul.f a0 a1).bind fun t144 => ((rushlightref01_Mul.f a0 a1).bind fun t145 => (some (t144 == t145)))) else (some false))) = some r := H
      have A8 := Aside0.mk A80
      clear A80
      replace H := Option.bind_eq_some_iff.mp H
      obtain ⟨t143, A90, H⟩ := H
      replace H : (if t142 = t143 then ((word_Mul.f a0 a1).bind fun t144 => ((rushlightref01_Mul.f a0 a1).bind fun t145 => (some (t144 == t145)))) else (some false)) = some r := H
      have A9 := Aside0.mk A90
      clear A90
      by_cases c10 : t142 = t143
      · rw [if_pos c10] at H
        have c10b0 : (t142 == t143) = true := beq_iff_eq.mpr c10
        have c10b1 : (t142 != t143) = false := bne_eq_false_iff_eq.mpr c10
        clear c10
        replace H := Option.bind_eq_some_iff.mp H
        obtain ⟨t144, A110, H⟩ := H
        replace H : ((rushlightref01_Mul.f a0 a1).bind fun t145 => (some (t144 == t145))) = some r := H
        have A11 := Aside0.mk A110
        clear A110
        replace H := Option.bind_eq_some_iff.mp H
        obtain ⟨t145, A120, H⟩ := H
        replace H : (some (t144 == t145)) = some r := H
        have A12 := Aside0.mk A120
        clear A120
        obtain rfl := Option.some.inj H
        go_enter Try.func5, Try.ntmps5
        go_wp2_with (first | (go_at_call 12; (with_reducible refine (rushlightlaw01_awake.calls  true _ A3.out).mono ?_); rintro e w' ⟨rfl, ⟨nd, rfl⟩⟩) | (go_at_call 22; (with_reducible refine (word_Add.calls a0 a1 t140 _ A5.out).mono ?_); rintro e w' ⟨rfl, ⟨nd, rfl⟩⟩) | (go_at_call 23; (with_reducible refine (rushlightref01_Add.calls a0 a1 t141 _ A6.out).mono ?_); rintro e w' ⟨rfl, ⟨nd, rfl⟩⟩) | (go_at_call 24; (with_reducible refine (word_Sub.calls a0 a1 t142 _ A8.out).mono ?_); rintro e w' ⟨rfl, ⟨nd, rfl⟩⟩) | (go_at_call 25; (with_reducible refine (rushlightref01_Sub.calls a0 a1 t143 _ A9.out).mono ?_); rintro e w' ⟨rfl, ⟨nd, rfl⟩⟩) | (go_at_call 26; (with_reducible refine (word_Mul.calls a0 a1 t144 _ A11.out).mono ?_); rintro e w' ⟨rfl, ⟨nd, rfl⟩⟩) | (go_at_call 27; (with_reducible refine (rushlightref01_Mul.calls a0 a1 t145 _ A12.out).mono ?_); rintro e w' ⟨rfl, ⟨nd, rfl⟩⟩))
        go_ret
        exact ⟨by first | rfl | (simp; done) | (simp [*]; done), by repeat (first | exact Drawn0.refl _ | apply Drawn0.step)⟩
      · rw [if_neg c10] at H
        have c10b0 : (t142 == t143) = false := beq_eq_false_iff_ne.mpr c10
        have c10b1 : (t142 != t143) = true := bne_iff_ne.mpr c10
        obtain rfl := Option.some.inj H
        go_enter Try.func5, Try.ntmps5
        go_wp2_with (first | (go_at_call 12; (with_reducible refine (rushlightlaw01_awake.calls  true _ A3.out).mono ?_); rintro e w' ⟨rfl, ⟨nd, rfl⟩⟩) | (go_at_call 22; (with_reducible refine (word_Add.calls a0 a1 t140 _ A5.out).mono ?_); rintro e w' ⟨rfl, ⟨nd, rfl⟩⟩) | (go_at_call 23; (with_reducible refine (rushlightref01_Add.calls a0 a1 t141 _ A6.out).mono ?_); rintro e w' ⟨rfl, ⟨nd, rfl⟩⟩) | (go_at_call 24; (with_reducible refine (word_Sub.calls a0 a1 t142 _ A8.out).mono ?_); rintro e w' ⟨rfl, ⟨nd, rfl⟩⟩) | (go_at_call 25; (with_reducible refine (rushlightref01_Sub.calls a0 a1 t143 _ A9.out).mono ?_); rintro e w' ⟨rfl, ⟨nd, rfl⟩⟩))
        go_ret
        exact ⟨by first | rfl | (simp; done) | (simp [*]; done), by repeat (first | exact Drawn0.refl _ | apply Drawn0.step)⟩
    · rw [if_neg c7] at H
      have c7b0 : (t140 == t141) = false := beq_eq_false_iff_ne.mpr c7
      have c7b1 : (t140 != t141) = true := bne_iff_ne.mpr c7
      obtain rfl := Option.some.inj H
      go_enter Try.func5, Try.ntmps5
      go_wp2_with (first | (go_at_call 12; (with_reducible refine (rushlightlaw01_awake.calls  true _ A3.out).mono ?_); rintro e w' ⟨rfl, ⟨nd, rfl⟩⟩) | (go_at_call 22; (with_reducible refine (word_Add.calls a0 a1 t140 _ A5.out).mono ?_); rintro e w' ⟨rfl, ⟨nd, rfl⟩⟩) | (go_at_call 23; (with_reducible refine (rushlightref01_Add.calls a0 a1 t141 _ A6.out).mono ?_); rintro e w' ⟨rfl, ⟨nd, rfl⟩⟩))
      go_ret
      exact ⟨by first | rfl | (simp; done) | (simp [*]; done), by repeat (first | exact Drawn0.refl _ | apply Drawn0.step)⟩
  · replace c4 := Bool.eq_false_iff.mpr c4
    subst c4
    have H1 : (some false) = some r := by rw [if_neg (show ¬ (false = true) by decide)] at H; exact H
    clear H
    have H := H1
    clear H1
    obtain rfl := Option.some.inj H
    go_enter Try.func5, Try.ntmps5
    go_wp2_with (first | (go_at_call 12; (with_reducible refine (rushlightlaw01_awake.calls  false _ A3.out).mono ?_); rintro e w' ⟨rfl, ⟨nd, rfl⟩⟩))
    go_ret
    exact ⟨by first | rfl | (simp; done) | (simp [*]; done), by repeat (first | exact Drawn0.refl _ | apply Drawn0.step)⟩

/-- THE ONE PURE STATEMENT of rushlightlaw01_WordSums: yours. -/
def rushlightlaw01_WordSums.Pure : Prop := ∀ (a0 : Int) (a1 : Int), (Lit.int .u32 a0).wf = true → (Lit.int .u32 a1).wf = true → rushlightlaw01_WordSums.f a0 a1 = some true
theorem rushlightlaw01_WordSums.walk (P : rushlightlaw01_WordSums.Pure) (a0 : Int) (a1 : Int) (w : World) (w0 : (Lit.int .u32 a0).wf = true) (w1 : (Lit.int .u32 a1).wf = true) :
    Calls Try.prog 5 #[.int .u32 a0, .int .u32 a1] w fun e w' => e = .returned (.bool true) ∧ Below w.heap.size w w' := by
  have h := P a0 a1 w0 w1
  refine (rushlightlaw01_WordSums.calls a0 a1 true w h).mono ?_
  rintro e w' ⟨rfl, hd⟩
  exact ⟨rfl, hd.below⟩

/-! ### word_High: function 28 (by hand) -/
def word_High.f (a0 : Int) (a1 : Int) : Option (Int) := some (shr .u64 ((wrap64 (wrap64 (wrap32 a0) * wrap64 (wrap32 a1))) % 18446744073709551616) 32 % 4294967296)
set_option maxHeartbeats 8000000 in
set_option maxRecDepth 100000 in
theorem word_High.calls (a0 : Int) (a1 : Int) (r : Int) (w : World) (h : word_High.f a0 a1 = some r) :
    Calls Try.prog 28 #[.int .u32 a0, .int .u32 a1] w fun e w' => e = .returned (.int .u32 r) ∧ Drawn0 w w' := by
  obtain rfl := Option.some.inj h
  clear h
  go_enter Try.func28, Try.ntmps28
  go_wp2
  go_ret
  exact ⟨by first | rfl | (simp; done) | (simp [*]; done), by repeat (first | exact Drawn0.refl _ | apply Drawn0.step)⟩


/-! ### rushlightref01_HighU: function 31 -/
def rushlightref01_HighU.f (a0 : Int) (a1 : Int) : Option (Int) := (rushlightref01_half.f a0 a1).bind fun bt146 => (some bt146.1)
set_option maxHeartbeats 8000000 in
set_option maxRecDepth 100000 in
theorem rushlightref01_HighU.calls (a0 : Int) (a1 : Int) (r : Int) (w : World) (h : rushlightref01_HighU.f a0 a1 = some r) :
    Calls Try.prog 31 #[.int .u32 a0, .int .u32 a1] w fun e w' => e = .returned (.int .u32 r) ∧ Drawn0 w w' := by
  have H : ((rushlightref01_half.f a0 a1).bind fun bt146 => (some bt146.1)) = some r := h
  clear h
  replace H := Option.bind_eq_some_iff.mp H
  obtain ⟨⟨t146, t147⟩, A30, H⟩ := H
  replace H : (some t146) = some r := H
  have A3 := Aside0.mk A30
  clear A30
  obtain rfl := Option.some.inj H
  go_enter Try.func31, Try.ntmps31
  go_wp2_with (first | (go_at_call 50; (with_reducible refine (rushlightref01_half.calls a0 a1 t146 t147 _ A3.out).mono ?_); rintro e w' ⟨rfl, ⟨nd, rfl⟩⟩))
  go_ret
  exact ⟨by first | rfl | (simp; done) | (simp [*]; done), by repeat (first | exact Drawn0.refl _ | apply Drawn0.step)⟩

/-! ### rushlightref01_HighSU: function 33 -/
def rushlightref01_HighSU.f (a0 : Int) (a1 : Int) : Option (Int) := (rushlightref01_HighU.f a0 a1).bind fun t148 => ((rushlightref01_Signed.f a0).bind fun t149 => (if t149 < 0 then ((rushlightref01_Sub.f t148 a1).bind fun t150 => (some t150)) else (some t148)))
set_option maxHeartbeats 8000000 in
set_option maxRecDepth 100000 in
theorem rushlightref01_HighSU.calls (a0 : Int) (a1 : Int) (r : Int) (w : World) (h : rushlightref01_HighSU.f a0 a1 = some r) :
    Calls Try.prog 33 #[.int .u32 a0, .int .u32 a1] w fun e w' => e = .returned (.int .u32 r) ∧ Drawn0 w w' := by
  have H : ((rushlightref01_HighU.f a0 a1).bind fun t148 => ((rushlightref01_Signed.f a0).bind fun t149 => (if t149 < 0 then ((rushlightref01_Sub.f t148 a1).bind fun t150 => (some t150)) else (some t148)))) = some r := h
  clear h
  replace H := Option.bind_eq_some_iff.mp H
  obtain ⟨t148, A30, H⟩ := H
  replace H : ((rushlightref01_Signed.f a0).bind fun t149 => (if t149 < 0 then ((rushlightref01_Sub.f t148 a1).bind fun t150 => (some t150)) else (some t148))) = some r := H
  have A3 := Aside0.mk A30
  clear A30
  replace H := Option.bind_eq_some_iff.mp H
  obtain ⟨t149, A40, H⟩ := H
  replace H : (if t149 < 0 then ((rushlightref01_Sub.f t148 a1).bind fun t150 => (some t150)) else (some t148)) = some r := H
  have A4 := Aside0.mk A40
  clear A40
  by_cases c5 : t149 < 0
  · rw [if_pos c5] at H
    have c5b0 : decide (t149 < 0) = true := decide_eq_true c5
    clear c5
    replace H := Option.bind_eq_some_iff.mp H
    obtain ⟨t150, A60, H⟩ := H
    replace H : (some t150) = some r := H
    have A6 := Aside0.mk A60
    clear A60
    obtain rfl := Option.some.inj H
    go_enter Try.func33, Try.ntmps33
    go_wp2_with (first | (go_at_call 31; (with_reducible refine (rushlightref01_HighU.calls a0 a1 t148 _ A3.out).mono ?_); rintro e w' ⟨rfl, ⟨nd, rfl⟩⟩) | (go_at_call 34; (with_reducible refine (rushlightref01_Signed.calls a0 t149 _ A4.out).mono ?_); rintro e w' ⟨rfl, ⟨nd, rfl⟩⟩) | (go_at_call 25; (with_reducible refine (rushlightref01_Sub.calls t148 a1 t150 _ A6.out).mono ?_); rintro e w' ⟨rfl, ⟨nd, rfl⟩⟩))
    go_ret
    exact ⟨by first | rfl | (simp; done) | (simp [*]; done), by repeat (first | exact Drawn0.refl _ | apply Drawn0.step)⟩
  · rw [if_neg c5] at H
    have c5b0 : decide (t149 < 0) = false := decide_eq_false c5
    clear c5
    obtain rfl := Option.some.inj H
    go_enter Try.func33, Try.ntmps33
    go_wp2_with (first | (go_at_call 31; (with_reducible refine (rushlightref01_HighU.calls a0 a1 t148 _ A3.out).mono ?_); rintro e w' ⟨rfl, ⟨nd, rfl⟩⟩) | (go_at_call 34; (with_reducible refine (rushlightref01_Signed.calls a0 t149 _ A4.out).mono ?_); rintro e w' ⟨rfl, ⟨nd, rfl⟩⟩))
    go_ret
    exact ⟨by first | rfl | (simp; done) | (simp [*]; done), by repeat (first | exact Drawn0.refl _ | apply Drawn0.step)⟩

/-! ### rushlightref01_High: function 29 -/
def rushlightref01_High.f (a0 : Int) (a1 : Int) : Option (Int) := (rushlightref01_HighSU.f a0 a1).bind fun t151 => ((rushlightref01_Signed.f a1).bind fun t152 => (if t152 < 0 then ((rushlightref01_Sub.f t151 a0).bind fun t153 => (some t153)) else (some t151)))
set_option maxHeartbeats 8000000 in
set_option maxRecDepth 100000 in
theorem rushlightref01_High.calls (a0 : Int) (a1 : Int) (r : Int) (w : World) (h : rushlightref01_High.f a0 a1 = some r) :
    Calls Try.prog 29 #[.int .u32 a0, .int .u32 a1] w fun e w' => e = .returned (.int .u32 r) ∧ Drawn0 w w' := by
  have H : ((rushlightref01_HighSU.f a0 a1).bind fun t151 => ((rushlightref01_Signed.f a1).bind fun t152 => (if t152 < 0 then ((rushlightref01_Sub.f t151 a0).bind fun t153 => (some t153)) else (some t151)))) = some r := h
  clear h
  replace H := Option.bind_eq_some_iff.mp H
  obtain ⟨t151, A30, H⟩ := H
  replace H : ((rushlightref01_Signed.f a1).bind fun t152 => (if t152 < 0 then ((rushlightref01_Sub.f t151 a0).bind fun t153 => (some t153)) else (some t151))) = some r := H
  have A3 := Aside0.mk A30
  clear A30
  replace H := Option.bind_eq_some_iff.mp H
  obtain ⟨t152, A40, H⟩ := H
  replace H : (if t152 < 0 then ((rushlightref01_Sub.f t151 a0).bind fun t153 => (some t153)) else (some t151)) = some r := H
  have A4 := Aside0.mk A40
  clear A40
  by_cases c5 : t152 < 0
  · rw [if_pos c5] at H
    have c5b0 : decide (t152 < 0) = true := decide_eq_true c5
    clear c5
    replace H := Option.bind_eq_some_iff.mp H
    obtain ⟨t153, A60, H⟩ := H
    replace H : (some t153) = some r := H
    have A6 := Aside0.mk A60
    clear A60
    obtain rfl := Option.some.inj H
    go_enter Try.func29, Try.ntmps29
    go_wp2_with (first | (go_at_call 33; (with_reducible refine (rushlightref01_HighSU.calls a0 a1 t151 _ A3.out).mono ?_); rintro e w' ⟨rfl, ⟨nd, rfl⟩⟩) | (go_at_call 34; (with_reducible refine (rushlightref01_Signed.calls a1 t152 _ A4.out).mono ?_); rintro e w' ⟨rfl, ⟨nd, rfl⟩⟩) | (go_at_call 25; (with_reducible refine (rushlightref01_Sub.calls t151 a0 t153 _ A6.out).mono ?_); rintro e w' ⟨rfl, ⟨nd, rfl⟩⟩))
    go_ret
    exact ⟨by first | rfl | (simp; done) | (simp [*]; done), by repeat (first | exact Drawn0.refl _ | apply Drawn0.step)⟩
  · rw [if_neg c5] at H
    have c5b0 : decide (t152 < 0) = false := decide_eq_false c5
    clear c5
    obtain rfl := Option.some.inj H
    go_enter Try.func29, Try.ntmps29
    go_wp2_with (first | (go_at_call 33; (with_reducible refine (rushlightref01_HighSU.calls a0 a1 t151 _ A3.out).mono ?_); rintro e w' ⟨rfl, ⟨nd, rfl⟩⟩) | (go_at_call 34; (with_reducible refine (rushlightref01_Signed.calls a1 t152 _ A4.out).mono ?_); rintro e w' ⟨rfl, ⟨nd, rfl⟩⟩))
    go_ret
    exact ⟨by first | rfl | (simp; done) | (simp [*]; done), by repeat (first | exact Drawn0.refl _ | apply Drawn0.step)⟩

/-! ### word_HighU: function 30 -/
def word_HighU.f (a0 : Int) (a1 : Int) : Option (Int) := some (((IntKind.u64.wrap ((IntKind.u64.wrap (a0)) * (IntKind.u64.wrap (a1)))) / 4294967296) % 4294967296)
set_option maxHeartbeats 8000000 in
set_option maxRecDepth 100000 in
theorem word_HighU.calls (a0 : Int) (a1 : Int) (r : Int) (w : World) (h : word_HighU.f a0 a1 = some r) :
    Calls Try.prog 30 #[.int .u32 a0, .int .u32 a1] w fun e w' => e = .returned (.int .u32 r) ∧ Drawn0 w w' := by
  have H : (some (((IntKind.u64.wrap ((IntKind.u64.wrap (a0)) * (IntKind.u64.wrap (a1)))) / 4294967296) % 4294967296)) = some r := h
  clear h
  obtain rfl := Option.some.inj H
  go_enter Try.func30, Try.ntmps30
  go_wp2
  go_ret
  exact ⟨by first | rfl | (simp; done) | (simp [*]; done), by repeat (first | exact Drawn0.refl _ | apply Drawn0.step)⟩

/-! ### word_HighSU: function 32 -/
def word_HighSU.f (a0 : Int) (a1 : Int) : Option (Int) := some (((IntKind.u64.wrap (wrap64 ((wrap64 (wrap32 (a0))) * (wrap64 (a1))))) / 4294967296) % 4294967296)
set_option maxHeartbeats 8000000 in
set_option maxRecDepth 100000 in
theorem word_HighSU.calls (a0 : Int) (a1 : Int) (r : Int) (w : World) (h : word_HighSU.f a0 a1 = some r) :
    Calls Try.prog 32 #[.int .u32 a0, .int .u32 a1] w fun e w' => e = .returned (.int .u32 r) ∧ Drawn0 w w' := by
  have H : (some (((IntKind.u64.wrap (wrap64 ((wrap64 (wrap32 (a0))) * (wrap64 (a1))))) / 4294967296) % 4294967296)) = some r := h
  clear h
  obtain rfl := Option.some.inj H
  go_enter Try.func32, Try.ntmps32
  go_wp2
  go_ret
  exact ⟨by first | rfl | (simp; done) | (simp [*]; done), by repeat (first | exact Drawn0.refl _ | apply Drawn0.step)⟩

/-! ### rushlightlaw01_WordHighs: function 6 -/
def rushlightlaw01_WordHighs.f (a0 : Int) (a1 : Int) : Option (Bool) := (rushlightlaw01_awake.f).bind fun t154 => (if t154 = true then ((word_High.f a0 a1).bind fun t155 => ((rushlightref01_High.f a0 a1).bind fun t156 => (if t155 = t156 then ((word_HighU.f a0 a1).bind fun t157 => ((rushlightref01_HighU.f a0 a1).bind fun t158 => (if t157 = t158 then ((word_HighSU.f a0 a1).bind fun t159 => ((rushlightref01_HighSU.f a0 a1).bind fun t160 => (some (t159 == t160)))) else (some false)))) else (some false)))) else (some false))
set_option maxHeartbeats 8000000 in
set_option maxRecDepth 100000 in
theorem rushlightlaw01_WordHighs.calls (a0 : Int) (a1 : Int) (r : Bool) (w : World) (h : rushlightlaw01_WordHighs.f a0 a1 = some r) :
    Calls Try.prog 6 #[.int .u32 a0, .int .u32 a1] w fun e w' => e = .returned (.bool r) ∧ Drawn0 w w' := by
  have H : ((rushlightlaw01_awake.f).bind fun t154 => (if t154 = true then ((word_High.f a0 a1).bind fun t155 => ((rushlightref01_High.f a0 a1).bind fun t156 => (if t155 = t156 then ((word_HighU.f a0 a1).bind fun t157 => ((rushlightref01_HighU.f a0 a1).bind fun t158 => (if t157 = t158 then ((word_HighSU.f a0 a1).bind fun t159 => ((rushlightref01_HighSU.f a0 a1).bind fun t160 => (some (t159 == t160)))) else (some false)))) else (some false)))) else (some false))) = some r := h
  clear h
  replace H := Option.bind_eq_some_iff.mp H
  obtain ⟨t154, A30, H⟩ := H
  replace H : (if t154 = true then ((word_High.f a0 a1).bind fun t155 => ((rushlightref01_High.f a0 a1).bind fun t156 => (if t155 = t156 then ((word_HighU.f a0 a1).bind fun t157 => ((rushlightref01_HighU.f a0 a1).bind fun t158 => (if t157 = t158 then ((word_HighSU.f a0 a1).bind fun t159 => ((rushlightref01_HighSU.f a0 a1).bind fun t160 => (some (t159 == t160)))) else (some false)))) else (some false)))) else (some false)) = some r := H
  have A3 := Aside0.mk A30
  clear A30
  by_cases c4 : t154 = true
  · subst c4
    have H1 : ((word_High.f a0 a1).bind fun t155 => ((rushlightref01_High.f a0 a1).bind fun t156 => (if t155 = t156 then ((word_HighU.f a0 a1).bind fun t157 => ((rushlightref01_HighU.f a0 a1).bind fun t158 => (if t157 = t158 then ((word_HighSU.f a0 a1).bind fun t159 => ((rushlightref01_HighSU.f a0 a1).bind fun t160 => (some (t159 == t160)))) else (some false)))) else (some false)))) = some r := by rw [if_pos rfl] at H; exact H
    clear H
    have H := H1
    clear H1
    replace H := Option.bind_eq_some_iff.mp H
    obtain ⟨t155, A50, H⟩ := H
    replace H : ((rushlightref01_High.f a0 a1).bind fun t156 => (if t155 = t156 then ((word_HighU.f a0 a1).bind fun t157 => ((rushlightref01_HighU.f a0 a1).bind fun t158 => (if t157 = t158 then ((word_HighSU.f a0 a1).bind fun t159 => ((rushlightref01_HighSU.f a0 a1).bind fun t160 => (some (t159 == t160)))) else (some false)))) else (some false))) = some r := H
    have A5 := Aside0.mk A50
    clear A50
    replace H := Option.bind_eq_some_iff.mp H
    obtain ⟨t156, A60, H⟩ := H
    replace H : (if t155 = t156 then ((word_HighU.f a0 a1).bind fun t157 => ((rushlightref01_HighU.f a0 a1).bind fun t158 => (if t157 = t158 then ((word_HighSU.f a0 a1).bind fun t159 => ((rushlightref01_HighSU.f a0 a1).bind fun t160 => (some (t159 == t160)))) else (some false)))) else (some false)) = some r := H
    have A6 := Aside0.mk A60
    clear A60
    by_cases c7 : t155 = t156
    · rw [if_pos c7] at H
      have c7b0 : (t155 == t156) = true := beq_iff_eq.mpr c7
      have c7b1 : (t155 != t156) = false := bne_eq_false_iff_eq.mpr c7
      clear c7
      replace H := Option.bind_eq_some_iff.mp H
      obtain ⟨t157, A80, H⟩ := H
      replace H : ((rushlightref01_HighU.f a0 a1).bind fun t158 => (if t157 = t158 then ((word_HighSU.f a0 a1).bind fun t159 => ((rushlightref01_HighSU.f a0 a1).bind fun t160 => (some (t159 == t160)))) else (some false))) = some r := H
      have A8 := Aside0.mk A80
      clear A80
      replace H := Option.bind_eq_some_iff.mp H
      obtain ⟨t158, A90, H⟩ := H
      replace H : (if t157 = t158 then ((word_HighSU.f a0 a1).bind fun t159 => ((rushlightref01_HighSU.f a0 a1).bind fun t160 => (some (t159 == t160)))) else (some false)) = some r := H
      have A9 := Aside0.mk A90
      clear A90
      by_cases c10 : t157 = t158
      · rw [if_pos c10] at H
        have c10b0 : (t157 == t158) = true := beq_iff_eq.mpr c10
        have c10b1 : (t157 != t158) = false := bne_eq_false_iff_eq.mpr c10
        clear c10
        replace H := Option.bind_eq_some_iff.mp H
        obtain ⟨t159, A110, H⟩ := H
        replace H : ((rushlightref01_HighSU.f a0 a1).bind fun t160 => (some (t159 == t160))) = some r := H
        have A11 := Aside0.mk A110
        clear A110
        replace H := Option.bind_eq_some_iff.mp H
        obtain ⟨t160, A120, H⟩ := H
        replace H : (some (t159 == t160)) = some r := H
        have A12 := Aside0.mk A120
        clear A120
        obtain rfl := Option.some.inj H
        go_enter Try.func6, Try.ntmps6
        go_wp2_with (first | (go_at_call 12; (with_reducible refine (rushlightlaw01_awake.calls  true _ A3.out).mono ?_); rintro e w' ⟨rfl, ⟨nd, rfl⟩⟩) | (go_at_call 28; (with_reducible refine (word_High.calls a0 a1 t155 _ A5.out).mono ?_); rintro e w' ⟨rfl, ⟨nd, rfl⟩⟩) | (go_at_call 29; (with_reducible refine (rushlightref01_High.calls a0 a1 t156 _ A6.out).mono ?_); rintro e w' ⟨rfl, ⟨nd, rfl⟩⟩) | (go_at_call 30; (with_reducible refine (word_HighU.calls a0 a1 t157 _ A8.out).mono ?_); rintro e w' ⟨rfl, ⟨nd, rfl⟩⟩) | (go_at_call 31; (with_reducible refine (rushlightref01_HighU.calls a0 a1 t158 _ A9.out).mono ?_); rintro e w' ⟨rfl, ⟨nd, rfl⟩⟩) | (go_at_call 32; (with_reducible refine (word_HighSU.calls a0 a1 t159 _ A11.out).mono ?_); rintro e w' ⟨rfl, ⟨nd, rfl⟩⟩) | (go_at_call 33; (with_reducible refine (rushlightref01_HighSU.calls a0 a1 t160 _ A12.out).mono ?_); rintro e w' ⟨rfl, ⟨nd, rfl⟩⟩))
        go_ret
        exact ⟨by first | rfl | (simp; done) | (simp [*]; done), by repeat (first | exact Drawn0.refl _ | apply Drawn0.step)⟩
      · rw [if_neg c10] at H
        have c10b0 : (t157 == t158) = false := beq_eq_false_iff_ne.mpr c10
        have c10b1 : (t157 != t158) = true := bne_iff_ne.mpr c10
        obtain rfl := Option.some.inj H
        go_enter Try.func6, Try.ntmps6
        go_wp2_with (first | (go_at_call 12; (with_reducible refine (rushlightlaw01_awake.calls  true _ A3.out).mono ?_); rintro e w' ⟨rfl, ⟨nd, rfl⟩⟩) | (go_at_call 28; (with_reducible refine (word_High.calls a0 a1 t155 _ A5.out).mono ?_); rintro e w' ⟨rfl, ⟨nd, rfl⟩⟩) | (go_at_call 29; (with_reducible refine (rushlightref01_High.calls a0 a1 t156 _ A6.out).mono ?_); rintro e w' ⟨rfl, ⟨nd, rfl⟩⟩) | (go_at_call 30; (with_reducible refine (word_HighU.calls a0 a1 t157 _ A8.out).mono ?_); rintro e w' ⟨rfl, ⟨nd, rfl⟩⟩) | (go_at_call 31; (with_reducible refine (rushlightref01_HighU.calls a0 a1 t158 _ A9.out).mono ?_); rintro e w' ⟨rfl, ⟨nd, rfl⟩⟩))
        go_ret
        exact ⟨by first | rfl | (simp; done) | (simp [*]; done), by repeat (first | exact Drawn0.refl _ | apply Drawn0.step)⟩
    · rw [if_neg c7] at H
      have c7b0 : (t155 == t156) = false := beq_eq_false_iff_ne.mpr c7
      have c7b1 : (t155 != t156) = true := bne_iff_ne.mpr c7
      obtain rfl := Option.some.inj H
      go_enter Try.func6, Try.ntmps6
      go_wp2_with (first | (go_at_call 12; (with_reducible refine (rushlightlaw01_awake.calls  true _ A3.out).mono ?_); rintro e w' ⟨rfl, ⟨nd, rfl⟩⟩) | (go_at_call 28; (with_reducible refine (word_High.calls a0 a1 t155 _ A5.out).mono ?_); rintro e w' ⟨rfl, ⟨nd, rfl⟩⟩) | (go_at_call 29; (with_reducible refine (rushlightref01_High.calls a0 a1 t156 _ A6.out).mono ?_); rintro e w' ⟨rfl, ⟨nd, rfl⟩⟩))
      go_ret
      exact ⟨by first | rfl | (simp; done) | (simp [*]; done), by repeat (first | exact Drawn0.refl _ | apply Drawn0.step)⟩
  · replace c4 := Bool.eq_false_iff.mpr c4
    subst c4
    have H1 : (some false) = some r := by rw [if_neg (show ¬ (false = true) by decide)] at H; exact H
    clear H
    have H := H1
    clear H1
    obtain rfl := Option.some.inj H
    go_enter Try.func6, Try.ntmps6
    go_wp2_with (first | (go_at_call 12; (with_reducible refine (rushlightlaw01_awake.calls  false _ A3.out).mono ?_); rintro e w' ⟨rfl, ⟨nd, rfl⟩⟩))
    go_ret
    exact ⟨by first | rfl | (simp; done) | (simp [*]; done), by repeat (first | exact Drawn0.refl _ | apply Drawn0.step)⟩

/-- THE ONE PURE STATEMENT of rushlightlaw01_WordHighs: yours. -/
def rushlightlaw01_WordHighs.Pure : Prop := ∀ (a0 : Int) (a1 : Int), (Lit.int .u32 a0).wf = true → (Lit.int .u32 a1).wf = true → rushlightlaw01_WordHighs.f a0 a1 = some true
theorem rushlightlaw01_WordHighs.walk (P : rushlightlaw01_WordHighs.Pure) (a0 : Int) (a1 : Int) (w : World) (w0 : (Lit.int .u32 a0).wf = true) (w1 : (Lit.int .u32 a1).wf = true) :
    Calls Try.prog 6 #[.int .u32 a0, .int .u32 a1] w fun e w' => e = .returned (.bool true) ∧ Below w.heap.size w w' := by
  have h := P a0 a1 w0 w1
  refine (rushlightlaw01_WordHighs.calls a0 a1 true w h).mono ?_
  rintro e w' ⟨rfl, hd⟩
  exact ⟨rfl, hd.below⟩

/-! ### rushlightlaw01_WordProducts: function 7 -/
def rushlightlaw01_WordProducts.f (a0 : Int) (a1 : Int) : Option (Bool) := (rushlightref01_Signed.f a0).bind fun t161 => ((rushlightref01_Signed.f a1).bind fun t162 => ((rushlightlaw01_awake.f).bind fun t163 => (if t163 = true then ((word_HighU.f a0 a1).bind fun t164 => ((word_Mul.f a0 a1).bind fun t165 => (if (Go.bits .or .u64 (IntKind.u64.wrap ((IntKind.u64.wrap (t164)) * 4294967296)) (IntKind.u64.wrap (t165))) = (IntKind.u64.wrap ((IntKind.u64.wrap (a0)) * (IntKind.u64.wrap (a1)))) then ((word_High.f a0 a1).bind fun t166 => (some ((Go.bits .or .u64 (IntKind.u64.wrap ((IntKind.u64.wrap (t166)) * 4294967296)) (IntKind.u64.wrap (t165))) == (IntKind.u64.wrap (wrap64 (t161 * t162)))))) else (some false)))) else (some false))))
set_option maxHeartbeats 8000000 in
set_option maxRecDepth 100000 in
theorem rushlightlaw01_WordProducts.calls (a0 : Int) (a1 : Int) (r : Bool) (w : World) (h : rushlightlaw01_WordProducts.f a0 a1 = some r) :
    Calls Try.prog 7 #[.int .u32 a0, .int .u32 a1] w fun e w' => e = .returned (.bool r) ∧ Drawn0 w w' := by
  have H : ((rushlightref01_Signed.f a0).bind fun t161 => ((rushlightref01_Signed.f a1).bind fun t162 => ((rushlightlaw01_awake.f).bind fun t163 => (if t163 = true then ((word_HighU.f a0 a1).bind fun t164 => ((word_Mul.f a0 a1).bind fun t165 => (if (Go.bits .or .u64 (IntKind.u64.wrap ((IntKind.u64.wrap (t164)) * 4294967296)) (IntKind.u64.wrap (t165))) = (IntKind.u64.wrap ((IntKind.u64.wrap (a0)) * (IntKind.u64.wrap (a1)))) then ((word_High.f a0 a1).bind fun t166 => (some ((Go.bits .or .u64 (IntKind.u64.wrap ((IntKind.u64.wrap (t166)) * 4294967296)) (IntKind.u64.wrap (t165))) == (IntKind.u64.wrap (wrap64 (t161 * t162)))))) else (some false)))) else (some false))))) = some r := h
  clear h
  replace H := Option.bind_eq_some_iff.mp H
  obtain ⟨t161, A30, H⟩ := H
  replace H : ((rushlightref01_Signed.f a1).bind fun t162 => ((rushlightlaw01_awake.f).bind fun t163 => (if t163 = true then ((word_HighU.f a0 a1).bind fun t164 => ((word_Mul.f a0 a1).bind fun t165 => (if (Go.bits .or .u64 (IntKind.u64.wrap ((IntKind.u64.wrap (t164)) * 4294967296)) (IntKind.u64.wrap (t165))) = (IntKind.u64.wrap ((IntKind.u64.wrap (a0)) * (IntKind.u64.wrap (a1)))) then ((word_High.f a0 a1).bind fun t166 => (some ((Go.bits .or .u64 (IntKind.u64.wrap ((IntKind.u64.wrap (t166)) * 4294967296)) (IntKind.u64.wrap (t165))) == (IntKind.u64.wrap (wrap64 (t161 * t162)))))) else (some false)))) else (some false)))) = some r := H
  have A3 := Aside0.mk A30
  clear A30
  replace H := Option.bind_eq_some_iff.mp H
  obtain ⟨t162, A40, H⟩ := H
  replace H : ((rushlightlaw01_awake.f).bind fun t163 => (if t163 = true then ((word_HighU.f a0 a1).bind fun t164 => ((word_Mul.f a0 a1).bind fun t165 => (if (Go.bits .or .u64 (IntKind.u64.wrap ((IntKind.u64.wrap (t164)) * 4294967296)) (IntKind.u64.wrap (t165))) = (IntKind.u64.wrap ((IntKind.u64.wrap (a0)) * (IntKind.u64.wrap (a1)))) then ((word_High.f a0 a1).bind fun t166 => (some ((Go.bits .or .u64 (IntKind.u64.wrap ((IntKind.u64.wrap (t166)) * 4294967296)) (IntKind.u64.wrap (t165))) == (IntKind.u64.wrap (wrap64 (t161 * t162)))))) else (some false)))) else (some false))) = some r := H
  have A4 := Aside0.mk A40
  clear A40
  replace H := Option.bind_eq_some_iff.mp H
  obtain ⟨t163, A50, H⟩ := H
  replace H : (if t163 = true then ((word_HighU.f a0 a1).bind fun t164 => ((word_Mul.f a0 a1).bind fun t165 => (if (Go.bits .or .u64 (IntKind.u64.wrap ((IntKind.u64.wrap (t164)) * 4294967296)) (IntKind.u64.wrap (t165))) = (IntKind.u64.wrap ((IntKind.u64.wrap (a0)) * (IntKind.u64.wrap (a1)))) then ((word_High.f a0 a1).bind fun t166 => (some ((Go.bits .or .u64 (IntKind.u64.wrap ((IntKind.u64.wrap (t166)) * 4294967296)) (IntKind.u64.wrap (t165))) == (IntKind.u64.wrap (wrap64 (t161 * t162)))))) else (some false)))) else (some false)) = some r := H
  have A5 := Aside0.mk A50
  clear A50
  by_cases c6 : t163 = true
  · subst c6
    have H1 : ((word_HighU.f a0 a1).bind fun t164 => ((word_Mul.f a0 a1).bind fun t165 => (if (Go.bits .or .u64 (IntKind.u64.wrap ((IntKind.u64.wrap (t164)) * 4294967296)) (IntKind.u64.wrap (t165))) = (IntKind.u64.wrap ((IntKind.u64.wrap (a0)) * (IntKind.u64.wrap (a1)))) then ((word_High.f a0 a1).bind fun t166 => (some ((Go.bits .or .u64 (IntKind.u64.wrap ((IntKind.u64.wrap (t166)) * 4294967296)) (IntKind.u64.wrap (t165))) == (IntKind.u64.wrap (wrap64 (t161 * t162)))))) else (some false)))) = some r := by rw [if_pos rfl] at H; exact H
    clear H
    have H := H1
    clear H1
    replace H := Option.bind_eq_some_iff.mp H
    obtain ⟨t164, A70, H⟩ := H
    replace H : ((word_Mul.f a0 a1).bind fun t165 => (if (Go.bits .or .u64 (IntKind.u64.wrap ((IntKind.u64.wrap (t164)) * 4294967296)) (IntKind.u64.wrap (t165))) = (IntKind.u64.wrap ((IntKind.u64.wrap (a0)) * (IntKind.u64.wrap (a1)))) then ((word_High.f a0 a1).bind fun t166 => (some ((Go.bits .or .u64 (IntKind.u64.wrap ((IntKind.u64.wrap (t166)) * 4294967296)) (IntKind.u64.wrap (t165))) == (IntKind.u64.wrap (wrap64 (t161 * t162)))))) else (some false))) = some r := H
    have A7 := Aside0.mk A70
    clear A70
    replace H := Option.bind_eq_some_iff.mp H
    obtain ⟨t165, A80, H⟩ := H
    replace H : (if (Go.bits .or .u64 (IntKind.u64.wrap ((IntKind.u64.wrap (t164)) * 4294967296)) (IntKind.u64.wrap (t165))) = (IntKind.u64.wrap ((IntKind.u64.wrap (a0)) * (IntKind.u64.wrap (a1)))) then ((word_High.f a0 a1).bind fun t166 => (some ((Go.bits .or .u64 (IntKind.u64.wrap ((IntKind.u64.wrap (t166)) * 4294967296)) (IntKind.u64.wrap (t165))) == (IntKind.u64.wrap (wrap64 (t161 * t162)))))) else (some false)) = some r := H
    have A8 := Aside0.mk A80
    clear A80
    by_cases c9 : (Go.bits .or .u64 (IntKind.u64.wrap ((IntKind.u64.wrap (t164)) * 4294967296)) (IntKind.u64.wrap (t165))) = (IntKind.u64.wrap ((IntKind.u64.wrap (a0)) * (IntKind.u64.wrap (a1))))
    · rw [if_pos c9] at H
      have c9b0 : ((Go.bits .or .u64 (IntKind.u64.wrap ((IntKind.u64.wrap (t164)) * 4294967296)) (IntKind.u64.wrap (t165))) == (IntKind.u64.wrap ((IntKind.u64.wrap (a0)) * (IntKind.u64.wrap (a1))))) = true := beq_iff_eq.mpr c9
      have c9b1 : ((Go.bits .or .u64 (IntKind.u64.wrap ((IntKind.u64.wrap (t164)) * 4294967296)) (IntKind.u64.wrap (t165))) != (IntKind.u64.wrap ((IntKind.u64.wrap (a0)) * (IntKind.u64.wrap (a1))))) = false := bne_eq_false_iff_eq.mpr c9
      clear c9
      replace H := Option.bind_eq_some_iff.mp H
      obtain ⟨t166, A100, H⟩ := H
      replace H : (some ((Go.bits .or .u64 (IntKind.u64.wrap ((IntKind.u64.wrap (t166)) * 4294967296)) (IntKind.u64.wrap (t165))) == (IntKind.u64.wrap (wrap64 (t161 * t162))))) = some r := H
      have A10 := Aside0.mk A100
      clear A100
      obtain rfl := Option.some.inj H
      go_enter Try.func7, Try.ntmps7
      go_wp2_with (first | (go_at_call 34; (with_reducible refine (rushlightref01_Signed.calls a0 t161 _ A3.out).mono ?_); rintro e w' ⟨rfl, ⟨nd, rfl⟩⟩) | (go_at_call 34; (with_reducible refine (rushlightref01_Signed.calls a1 t162 _ A4.out).mono ?_); rintro e w' ⟨rfl, ⟨nd, rfl⟩⟩) | (go_at_call 12; (with_reducible refine (rushlightlaw01_awake.calls  true _ A5.out).mono ?_); rintro e w' ⟨rfl, ⟨nd, rfl⟩⟩) | (go_at_call 30; (with_reducible refine (word_HighU.calls a0 a1 t164 _ A7.out).mono ?_); rintro e w' ⟨rfl, ⟨nd, rfl⟩⟩) | (go_at_call 26; (with_reducible refine (word_Mul.calls a0 a1 t165 _ A8.out).mono ?_); rintro e w' ⟨rfl, ⟨nd, rfl⟩⟩) | (go_at_call 28; (with_reducible refine (word_High.calls a0 a1 t166 _ A10.out).mono ?_); rintro e w' ⟨rfl, ⟨nd, rfl⟩⟩))
      go_ret
      exact ⟨by first | rfl | (simp; done) | (simp [*]; done), by repeat (first | exact Drawn0.refl _ | apply Drawn0.step)⟩
    · rw [if_neg c9] at H
      have c9b0 : ((Go.bits .or .u64 (IntKind.u64.wrap ((IntKind.u64.wrap (t164)) * 4294967296)) (IntKind.u64.wrap (t165))) == (IntKind.u64.wrap ((IntKind.u64.wrap (a0)) * (IntKind.u64.wrap (a1))))) = false := beq_eq_false_iff_ne.mpr c9
      have c9b1 : ((Go.bits .or .u64 (IntKind.u64.wrap ((IntKind.u64.wrap (t164)) * 4294967296)) (IntKind.u64.wrap (t165))) != (IntKind.u64.wrap ((IntKind.u64.wrap (a0)) * (IntKind.u64.wrap (a1))))) = true := bne_iff_ne.mpr c9
      obtain rfl := Option.some.inj H
      go_enter Try.func7, Try.ntmps7
      go_wp2_with (first | (go_at_call 34; (with_reducible refine (rushlightref01_Signed.calls a0 t161 _ A3.out).mono ?_); rintro e w' ⟨rfl, ⟨nd, rfl⟩⟩) | (go_at_call 34; (with_reducible refine (rushlightref01_Signed.calls a1 t162 _ A4.out).mono ?_); rintro e w' ⟨rfl, ⟨nd, rfl⟩⟩) | (go_at_call 12; (with_reducible refine (rushlightlaw01_awake.calls  true _ A5.out).mono ?_); rintro e w' ⟨rfl, ⟨nd, rfl⟩⟩) | (go_at_call 30; (with_reducible refine (word_HighU.calls a0 a1 t164 _ A7.out).mono ?_); rintro e w' ⟨rfl, ⟨nd, rfl⟩⟩) | (go_at_call 26; (with_reducible refine (word_Mul.calls a0 a1 t165 _ A8.out).mono ?_); rintro e w' ⟨rfl, ⟨nd, rfl⟩⟩))
      go_ret
      exact ⟨by first | rfl | (simp; done) | (simp [*]; done), by repeat (first | exact Drawn0.refl _ | apply Drawn0.step)⟩
  · replace c6 := Bool.eq_false_iff.mpr c6
    subst c6
    have H1 : (some false) = some r := by rw [if_neg (show ¬ (false = true) by decide)] at H; exact H
    clear H
    have H := H1
    clear H1
    obtain rfl := Option.some.inj H
    go_enter Try.func7, Try.ntmps7
    go_wp2_with (first | (go_at_call 34; (with_reducible refine (rushlightref01_Signed.calls a0 t161 _ A3.out).mono ?_); rintro e w' ⟨rfl, ⟨nd, rfl⟩⟩) | (go_at_call 34; (with_reducible refine (rushlightref01_Signed.calls a1 t162 _ A4.out).mono ?_); rintro e w' ⟨rfl, ⟨nd, rfl⟩⟩) | (go_at_call 12; (with_reducible refine (rushlightlaw01_awake.calls  false _ A5.out).mono ?_); rintro e w' ⟨rfl, ⟨nd, rfl⟩⟩))
    go_ret
    exact ⟨by first | rfl | (simp; done) | (simp [*]; done), by repeat (first | exact Drawn0.refl _ | apply Drawn0.step)⟩

/-- THE ONE PURE STATEMENT of rushlightlaw01_WordProducts: yours. -/
def rushlightlaw01_WordProducts.Pure : Prop := ∀ (a0 : Int) (a1 : Int), (Lit.int .u32 a0).wf = true → (Lit.int .u32 a1).wf = true → rushlightlaw01_WordProducts.f a0 a1 = some true
theorem rushlightlaw01_WordProducts.walk (P : rushlightlaw01_WordProducts.Pure) (a0 : Int) (a1 : Int) (w : World) (w0 : (Lit.int .u32 a0).wf = true) (w1 : (Lit.int .u32 a1).wf = true) :
    Calls Try.prog 7 #[.int .u32 a0, .int .u32 a1] w fun e w' => e = .returned (.bool true) ∧ Below w.heap.size w w' := by
  have h := P a0 a1 w0 w1
  refine (rushlightlaw01_WordProducts.calls a0 a1 true w h).mono ?_
  rintro e w' ⟨rfl, hd⟩
  exact ⟨rfl, hd.below⟩

/-! ### word_bit: function 53 -/
def word_bit.f (a0 : Bool) : Option (Int) := if a0 = true then (some 1) else (some 0)
set_option maxHeartbeats 8000000 in
set_option maxRecDepth 100000 in
theorem word_bit.calls (a0 : Bool) (r : Int) (w : World) (h : word_bit.f a0 = some r) :
    Calls Try.prog 53 #[.bool a0] w fun e w' => e = .returned (.int .u32 r) ∧ Drawn0 w w' := by
  have H : (if a0 = true then (some 1) else (some 0)) = some r := h
  clear h
  by_cases c2 : a0 = true
  · subst c2
    have H1 : (some 1) = some r := by rw [if_pos rfl] at H; exact H
    clear H
    have H := H1
    clear H1
    obtain rfl := Option.some.inj H
    go_enter Try.func53, Try.ntmps53
    go_wp2
    go_ret
    exact ⟨by first | rfl | (simp; done) | (simp [*]; done), by repeat (first | exact Drawn0.refl _ | apply Drawn0.step)⟩
  · replace c2 := Bool.eq_false_iff.mpr c2
    subst c2
    have H1 : (some 0) = some r := by rw [if_neg (show ¬ (false = true) by decide)] at H; exact H
    clear H
    have H := H1
    clear H1
    obtain rfl := Option.some.inj H
    go_enter Try.func53, Try.ntmps53
    go_wp2
    go_ret
    exact ⟨by first | rfl | (simp; done) | (simp [*]; done), by repeat (first | exact Drawn0.refl _ | apply Drawn0.step)⟩

/-! ### word_Less: function 35 -/
def word_Less.f (a0 : Int) (a1 : Int) : Option (Int) := (word_bit.f (decide ((wrap32 (a0)) < (wrap32 (a1))))).bind fun t167 => (some t167)
set_option maxHeartbeats 8000000 in
set_option maxRecDepth 100000 in
theorem word_Less.calls (a0 : Int) (a1 : Int) (r : Int) (w : World) (h : word_Less.f a0 a1 = some r) :
    Calls Try.prog 35 #[.int .u32 a0, .int .u32 a1] w fun e w' => e = .returned (.int .u32 r) ∧ Drawn0 w w' := by
  have H : ((word_bit.f (decide ((wrap32 (a0)) < (wrap32 (a1))))).bind fun t167 => (some t167)) = some r := h
  clear h
  replace H := Option.bind_eq_some_iff.mp H
  obtain ⟨t167, A30, H⟩ := H
  replace H : (some t167) = some r := H
  have A3 := Aside0.mk A30
  clear A30
  obtain rfl := Option.some.inj H
  go_enter Try.func35, Try.ntmps35
  go_wp2_with (first | (go_at_call 53; (with_reducible refine (word_bit.calls (decide ((wrap32 (a0)) < (wrap32 (a1)))) t167 _ A3.out).mono ?_); rintro e w' ⟨rfl, ⟨nd, rfl⟩⟩))
  go_ret
  exact ⟨by first | rfl | (simp; done) | (simp [*]; done), by repeat (first | exact Drawn0.refl _ | apply Drawn0.step)⟩

/-! ### rushlightref01_Less: function 36 -/
def rushlightref01_Less.f (a0 : Int) (a1 : Int) : Option (Int) := (rushlightref01_Signed.f a0).bind fun t168 => ((rushlightref01_Signed.f a1).bind fun t169 => (if t168 < t169 then (some 1) else (some 0)))
set_option maxHeartbeats 8000000 in
set_option maxRecDepth 100000 in
theorem rushlightref01_Less.calls (a0 : Int) (a1 : Int) (r : Int) (w : World) (h : rushlightref01_Less.f a0 a1 = some r) :
    Calls Try.prog 36 #[.int .u32 a0, .int .u32 a1] w fun e w' => e = .returned (.int .u32 r) ∧ Drawn0 w w' := by
  have H : ((rushlightref01_Signed.f a0).bind fun t168 => ((rushlightref01_Signed.f a1).bind fun t169 => (if t168 < t169 then (some 1) else (some 0)))) = some r := h
  clear h
  replace H := Option.bind_eq_some_iff.mp H
  obtain ⟨t168, A30, H⟩ := H
  replace H : ((rushlightref01_Signed.f a1).bind fun t169 => (if t168 < t169 then (some 1) else (some 0))) = some r := H
  have A3 := Aside0.mk A30
  clear A30
  replace H := Option.bind_eq_some_iff.mp H
  obtain ⟨t169, A40, H⟩ := H
  replace H : (if t168 < t169 then (some 1) else (some 0)) = some r := H
  have A4 := Aside0.mk A40
  clear A40
  by_cases c5 : t168 < t169
  · rw [if_pos c5] at H
    have c5b0 : decide (t168 < t169) = true := decide_eq_true c5
    clear c5
    obtain rfl := Option.some.inj H
    go_enter Try.func36, Try.ntmps36
    go_wp2_with (first | (go_at_call 34; (with_reducible refine (rushlightref01_Signed.calls a0 t168 _ A3.out).mono ?_); rintro e w' ⟨rfl, ⟨nd, rfl⟩⟩) | (go_at_call 34; (with_reducible refine (rushlightref01_Signed.calls a1 t169 _ A4.out).mono ?_); rintro e w' ⟨rfl, ⟨nd, rfl⟩⟩))
    go_ret
    exact ⟨by first | rfl | (simp; done) | (simp [*]; done), by repeat (first | exact Drawn0.refl _ | apply Drawn0.step)⟩
  · rw [if_neg c5] at H
    have c5b0 : decide (t168 < t169) = false := decide_eq_false c5
    clear c5
    obtain rfl := Option.some.inj H
    go_enter Try.func36, Try.ntmps36
    go_wp2_with (first | (go_at_call 34; (with_reducible refine (rushlightref01_Signed.calls a0 t168 _ A3.out).mono ?_); rintro e w' ⟨rfl, ⟨nd, rfl⟩⟩) | (go_at_call 34; (with_reducible refine (rushlightref01_Signed.calls a1 t169 _ A4.out).mono ?_); rintro e w' ⟨rfl, ⟨nd, rfl⟩⟩))
    go_ret
    exact ⟨by first | rfl | (simp; done) | (simp [*]; done), by repeat (first | exact Drawn0.refl _ | apply Drawn0.step)⟩

/-! ### word_LessU: function 37 -/
def word_LessU.f (a0 : Int) (a1 : Int) : Option (Int) := (word_bit.f (decide (a0 < a1))).bind fun t170 => (some t170)
set_option maxHeartbeats 8000000 in
set_option maxRecDepth 100000 in
theorem word_LessU.calls (a0 : Int) (a1 : Int) (r : Int) (w : World) (h : word_LessU.f a0 a1 = some r) :
    Calls Try.prog 37 #[.int .u32 a0, .int .u32 a1] w fun e w' => e = .returned (.int .u32 r) ∧ Drawn0 w w' := by
  have H : ((word_bit.f (decide (a0 < a1))).bind fun t170 => (some t170)) = some r := h
  clear h
  replace H := Option.bind_eq_some_iff.mp H
  obtain ⟨t170, A30, H⟩ := H
  replace H : (some t170) = some r := H
  have A3 := Aside0.mk A30
  clear A30
  obtain rfl := Option.some.inj H
  go_enter Try.func37, Try.ntmps37
  go_wp2_with (first | (go_at_call 53; (with_reducible refine (word_bit.calls (decide (a0 < a1)) t170 _ A3.out).mono ?_); rintro e w' ⟨rfl, ⟨nd, rfl⟩⟩))
  go_ret
  exact ⟨by first | rfl | (simp; done) | (simp [*]; done), by repeat (first | exact Drawn0.refl _ | apply Drawn0.step)⟩

/-! ### rushlightref01_LessU: function 38 -/
def rushlightref01_LessU.f (a0 : Int) (a1 : Int) : Option (Int) := if a0 < a1 then (some 1) else (some 0)
set_option maxHeartbeats 8000000 in
set_option maxRecDepth 100000 in
theorem rushlightref01_LessU.calls (a0 : Int) (a1 : Int) (r : Int) (w : World) (h : rushlightref01_LessU.f a0 a1 = some r) :
    Calls Try.prog 38 #[.int .u32 a0, .int .u32 a1] w fun e w' => e = .returned (.int .u32 r) ∧ Drawn0 w w' := by
  have H : (if a0 < a1 then (some 1) else (some 0)) = some r := h
  clear h
  by_cases c3 : a0 < a1
  · rw [if_pos c3] at H
    have c3b0 : decide (a0 < a1) = true := decide_eq_true c3
    clear c3
    obtain rfl := Option.some.inj H
    go_enter Try.func38, Try.ntmps38
    go_wp2
    go_ret
    exact ⟨by first | rfl | (simp; done) | (simp [*]; done), by repeat (first | exact Drawn0.refl _ | apply Drawn0.step)⟩
  · rw [if_neg c3] at H
    have c3b0 : decide (a0 < a1) = false := decide_eq_false c3
    clear c3
    obtain rfl := Option.some.inj H
    go_enter Try.func38, Try.ntmps38
    go_wp2
    go_ret
    exact ⟨by first | rfl | (simp; done) | (simp [*]; done), by repeat (first | exact Drawn0.refl _ | apply Drawn0.step)⟩

end Go.Proofs.Ytoinjjlefckhhaa.All
