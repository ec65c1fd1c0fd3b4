-- Written by this session's own program (wip/tools/myprint.py over the kit's printer), functions proved by hand among them. Not trusted: Lean checks it.
import Derived.Test.YtoinjjlefckhhaaAll0
import Derived.Test.YtoinjjlefckhhaaAll1
import Derived.Test.YtoinjjlefckhhaaAll2
namespace Go.Proofs.Ytoinjjlefckhhaa.All
open Go.RowKit Go.Proofs.YtoinjjlefckhhaaW.PrintWords Go.Proofs.YtoinjjlefckhhaaW.PrintLast Go.Proofs.YtoinjjlefckhhaaW.PrintMore
attribute [local go_sem] max2_int min2_int max_two min_two max_three min_three max_four min_four   -- for this text's walks alone
set_option linter.unusedVariables false
set_option linter.unusedSimpArgs false

/-! ### rushlightlaw01_WordLess: function 8 -/
def rushlightlaw01_WordLess.f (a0 : Int) (a1 : Int) : Option (Bool) := (rushlightlaw01_awake.f).bind fun t171 => (if t171 = true then ((word_Less.f a0 a1).bind fun t172 => ((rushlightref01_Less.f a0 a1).bind fun t173 => (if t172 = t173 then ((word_LessU.f a0 a1).bind fun t174 => ((rushlightref01_LessU.f a0 a1).bind fun t175 => (some (t174 == t175)))) else (some false)))) else (some false))
set_option maxHeartbeats 8000000 in
set_option maxRecDepth 100000 in
theorem rushlightlaw01_WordLess.calls (a0 : Int) (a1 : Int) (r : Bool) (w : World) (h : rushlightlaw01_WordLess.f a0 a1 = some r) :
    Calls Try.prog 8 #[.int .u32 a0, .int .u32 a1] w fun e w' => e = .returned (.bool r) ∧ Drawn0 w w' := by
  have H : ((rushlightlaw01_awake.f).bind fun t171 => (if t171 = true then ((word_Less.f a0 a1).bind fun t172 => ((rushlightref01_Less.f a0 a1).bind fun t173 => (if t172 = t173 then ((word_LessU.f a0 a1).bind fun t174 => ((rushlightref01_LessU.f a0 a1).bind fun t175 => (some (t174 == t175)))) else (some false)))) else (some false))) = some r := h
  clear h
  replace H := Option.bind_eq_some_iff.mp H
  obtain ⟨t171, A30, H⟩ := H
  replace H : (if t171 = true then ((word_Less.f a0 a1).bind fun t172 => ((rushlightref01_Less.f a0 a1).bind fun t173 => (if t172 = t173 then ((word_LessU.f a0 a1).bind fun t174 => ((rushlightref01_LessU.f a0 a1).bind fun t175 => (some (t174 == t175)))) else (some false)))) else (some false)) = some r := H
  have A3 := Aside0.mk A30
  clear A30
  by_cases c4 : t171 = true
  · subst c4
    have H1 : ((word_Less.f a0 a1).bind fun t172 => ((rushlightref01_Less.f a0 a1).bind fun t173 => (if t172 = t173 then ((word_LessU.f a0 a1).bind fun t174 => ((rushlightref01_LessU.f a0 a1).bind fun t175 => (some (t174 == t175)))) else (some false)))) = some r := by rw [if_pos rfl] at H; exact H
    clear H
    have H := H1
    clear H1
    replace H := Option.bind_eq_some_iff.mp H
    obtain ⟨t172, A50, H⟩ := H
    replace H : ((rushlightref01_Less.f a0 a1).bind fun t173 => (if t172 = t173 then ((word_LessU.f a0 a1).bind fun t174 => ((rushlightref01_LessU.f a0 a1).bind fun t175 => (some (t174 == t175)))) else (some false))) = some r := H
    have A5 := Aside0.mk A50
    clear A50
    replace H := Option.bind_eq_some_iff.mp H
    obtain ⟨t173, A60, H⟩ := H
    replace H : (if t172 = t173 then ((word_LessU.f a0 a1).bind fun t174 => ((rushlightref01_LessU.f a0 a1).bind fun t175 => (some (t174 == t175)))) else (some false)) = some r := H
    have A6 := Aside0.mk A60
    clear A60
    by_cases c7 : t172 = t173
    · rw [if_pos c7] at H
      have c7b0 : (t172 == t173) = true := beq_iff_eq.mpr c7
      have c7b1 : (t172 != t173) = false := bne_eq_false_iff_eq.mpr c7
      clear c7
      replace H := Option.bind_eq_some_iff.mp H
      obtain ⟨t174, A80, H⟩ := H
      replace H : ((rushlightref01_LessU.f a0 a1).bind fun t175 => (some (t174 == t175))) = some r := H
      have A8 := Aside0.mk A80
      clear A80
      replace H := Option.bind_eq_some_iff.mp H
      obtain ⟨t175, A90, H⟩ := H
      replace H : (some (t174 == t175)) = some r := H
      have A9 := Aside0.mk A90
      clear A90
      obtain rfl := Option.some.inj H
      go_enter Try.func8, Try.ntmps8
      go_wp2_with (first | (go_at_call 12; (with_reducible refine (rushlightlaw01_awake.calls  true _ A3.out).mono ?_); rintro e w' ⟨rfl, ⟨nd, rfl⟩⟩) | (go_at_call 35; (with_reducible refine (word_Less.calls a0 a1 t172 _ A5.out).mono ?_); rintro e w' ⟨rfl, ⟨nd, rfl⟩⟩) | (go_at_call 36; (with_reducible refine (rushlightref01_Less.calls a0 a1 t173 _ A6.out).mono ?_); rintro e w' ⟨rfl, ⟨nd, rfl⟩⟩) | (go_at_call 37; (with_reducible refine (word_LessU.calls a0 a1 t174 _ A8.out).mono ?_); rintro e w' ⟨rfl, ⟨nd, rfl⟩⟩) | (go_at_call 38; (with_reducible refine (rushlightref01_LessU.calls a0 a1 t175 _ A9.out).mono ?_); rintro e w' ⟨rfl, ⟨nd, rfl⟩⟩))
      go_ret
      exact ⟨by first | rfl | (simp; done) | (simp [*]; done), by repeat (first | exact Drawn0.refl _ | apply Drawn0.step)⟩
    · rw [if_neg c7] at H
      have c7b0 : (t172 == t173) = false := beq_eq_false_iff_ne.mpr c7
      have c7b1 : (t172 != t173) = true := bne_iff_ne.mpr c7
      obtain rfl := Option.some.inj H
      go_enter Try.func8, Try.ntmps8
      go_wp2_with (first | (go_at_call 12; (with_reducible refine (rushlightlaw01_awake.calls  true _ A3.out).mono ?_); rintro e w' ⟨rfl, ⟨nd, rfl⟩⟩) | (go_at_call 35; (with_reducible refine (word_Less.calls a0 a1 t172 _ A5.out).mono ?_); rintro e w' ⟨rfl, ⟨nd, rfl⟩⟩) | (go_at_call 36; (with_reducible refine (rushlightref01_Less.calls a0 a1 t173 _ A6.out).mono ?_); rintro e w' ⟨rfl, ⟨nd, rfl⟩⟩))
      go_ret
      exact ⟨by first | rfl | (simp; done) | (simp [*]; done), by repeat (first | exact Drawn0.refl _ | apply Drawn0.step)⟩
  · replace c4 := Bool.eq_false_iff.mpr c4
    subst c4
    have H1 : (some false) = some r := by rw [if_neg (show ¬ (false = true) by decide)] at H; exact H
    clear H
    have H := H1
    clear H1
    obtain rfl := Option.some.inj H
    go_enter Try.func8, Try.ntmps8
    go_wp2_with (first | (go_at_call 12; (with_reducible refine (rushlightlaw01_awake.calls  false _ A3.out).mono ?_); rintro e w' ⟨rfl, ⟨nd, rfl⟩⟩))
    go_ret
    exact ⟨by first | rfl | (simp; done) | (simp [*]; done), by repeat (first | exact Drawn0.refl _ | apply Drawn0.step)⟩

/-- THE ONE PURE STATEMENT of rushlightlaw01_WordLess: yours. -/
def rushlightlaw01_WordLess.Pure : Prop := ∀ (a0 : Int) (a1 : Int), (Lit.int .u32 a0).wf = true → (Lit.int .u32 a1).wf = true → rushlightlaw01_WordLess.f a0 a1 = some true
theorem rushlightlaw01_WordLess.walk (P : rushlightlaw01_WordLess.Pure) (a0 : Int) (a1 : Int) (w : World) (w0 : (Lit.int .u32 a0).wf = true) (w1 : (Lit.int .u32 a1).wf = true) :
    Calls Try.prog 8 #[.int .u32 a0, .int .u32 a1] w fun e w' => e = .returned (.bool true) ∧ Below w.heap.size w w' := by
  have h := P a0 a1 w0 w1
  refine (rushlightlaw01_WordLess.calls a0 a1 true w h).mono ?_
  rintro e w' ⟨rfl, hd⟩
  exact ⟨rfl, hd.below⟩

/-! ### rushlightref01_abs: function 55 -/
def rushlightref01_abs.f (a0 : Int) : Option (Int) := if a0 < 0 then (some (wrap64 (-a0))) else (some a0)
set_option maxHeartbeats 8000000 in
set_option maxRecDepth 100000 in
theorem rushlightref01_abs.calls (a0 : Int) (r : Int) (w : World) (h : rushlightref01_abs.f a0 = some r) :
    Calls Try.prog 55 #[.int .i64 a0] w fun e w' => e = .returned (.int .i64 r) ∧ Drawn0 w w' := by
  have H : (if a0 < 0 then (some (wrap64 (-a0))) else (some a0)) = some r := h
  clear h
  by_cases c2 : a0 < 0
  · rw [if_pos c2] at H
    have c2b0 : decide (a0 < 0) = true := decide_eq_true c2
    clear c2
    obtain rfl := Option.some.inj H
    go_enter Try.func55, Try.ntmps55
    go_wp2
    go_ret
    exact ⟨by first | rfl | (simp; done) | (simp [*]; done), by repeat (first | exact Drawn0.refl _ | apply Drawn0.step)⟩
  · rw [if_neg c2] at H
    have c2b0 : decide (a0 < 0) = false := decide_eq_false c2
    clear c2
    obtain rfl := Option.some.inj H
    go_enter Try.func55, Try.ntmps55
    go_wp2
    go_ret
    exact ⟨by first | rfl | (simp; done) | (simp [*]; done), by repeat (first | exact Drawn0.refl _ | apply Drawn0.step)⟩

/-! ### rushlightref01_Div: function 40 -/
def rushlightref01_Div.f (a0 : Int) (a1 : Int) : Option (Int) := (rushlightref01_Signed.f a0).bind fun t176 => ((rushlightref01_Signed.f a1).bind fun t177 => (if t177 = 0 then (some 4294967295) else ((rushlightref01_abs.f t176).bind fun t178 => ((rushlightref01_abs.f t177).bind fun t179 => (if t179 = 0 then (none) else (if t176 < 0 then (if t177 > 0 then ((rushlightref01_Cut.f (wrap64 (-(wrap64 (Int.tdiv t178 t179))))).bind fun t180 => (some t180)) else (if t176 > 0 then (if t177 < 0 then ((rushlightref01_Cut.f (wrap64 (-(wrap64 (Int.tdiv t178 t179))))).bind fun t181 => (some t181)) else ((rushlightref01_Cut.f (wrap64 (Int.tdiv t178 t179))).bind fun t182 => (some t182))) else ((rushlightref01_Cut.f (wrap64 (Int.tdiv t178 t179))).bind fun t183 => (some t183)))) else (if t176 > 0 then (if t177 < 0 then ((rushlightref01_Cut.f (wrap64 (-(wrap64 (Int.tdiv t178 t179))))).bind fun t184 => (some t184)) else ((rushlightref01_Cut.f (wrap64 (Int.tdiv t178 t179))).bind fun t185 => (some t185))) else ((rushlightref01_Cut.f (wrap64 (Int.tdiv t178 t179))).bind fun t186 => (some t186)))))))))
set_option maxHeartbeats 8000000 in
set_option maxRecDepth 100000 in
theorem rushlightref01_Div.calls (a0 : Int) (a1 : Int) (r : Int) (w : World) (h : rushlightref01_Div.f a0 a1 = some r) :
    Calls Try.prog 40 #[.int .u32 a0, .int .u32 a1] w fun e w' => e = .returned (.int .u32 r) ∧ Drawn0 w w' := by
  have H : ((rushlightref01_Signed.f a0).bind fun t176 => ((rushlightref01_Signed.f a1).bind fun t177 => (if t177 = 0 then (some 4294967295) else ((rushlightref01_abs.f t176).bind fun t178 => ((rushlightref01_abs.f t177).bind fun t179 => (if t179 = 0 then (none) else (if t176 < 0 then (if t177 > 0 then ((rushlightref01_Cut.f (wrap64 (-(wrap64 (Int.tdiv t178 t179))))).bind fun t180 => (some t180)) else (if t176 > 0 then (if t177 < 0 then ((rushlightref01_Cut.f (wrap64 (-(wrap64 (Int.tdiv t178 t179))))).bind fun t181 => (some t181)) else ((rushlightref01_Cut.f (wrap64 (Int.tdiv t178 t179))).bind fun t182 => (some t182))) else ((rushlightref01_Cut.f (wrap64 (Int.tdiv t178 t179))).bind fun t183 => (some t183)))) else (if t176 > 0 then (if t177 < 0 then ((rushlightref01_Cut.f (wrap64 (-(wrap64 (Int.tdiv t178 t179))))).bind fun t184 => (some t184)) else ((rushlightref01_Cut.f (wrap64 (Int.tdiv t178 t179))).bind fun t185 => (some t185))) else ((rushlightref01_Cut.f (wrap64 (Int.tdiv t178 t179))).bind fun t186 => (some t186)))))))))) = some r := h
  clear h
  replace H := Option.bind_eq_some_iff.mp H
  obtain ⟨t176, A30, H⟩ := H
  replace H : ((rushlightref01_Signed.f a1).bind fun t177 => (if t177 = 0 then (some 4294967295) else ((rushlightref01_abs.f t176).bind fun t178 => ((rushlightref01_abs.f t177).bind fun t179 => (if t179 = 0 then (none) else (if t176 < 0 then (if t177 > 0 then ((rushlightref01_Cut.f (wrap64 (-(wrap64 (Int.tdiv t178 t179))))).bind fun t180 => (some t180)) else (if t176 > 0 then (if t177 < 0 then ((rushlightref01_Cut.f (wrap64 (-(wrap64 (Int.tdiv t178 t179))))).bind fun t181 => (some t181)) else ((rushlightref01_Cut.f (wrap64 (Int.tdiv t178 t179))).bind fun t182 => (some t182))) else ((rushlightref01_Cut.f (wrap64 (Int.tdiv t178 t179))).bind fun t183 => (some t183)))) else (if t176 > 0 then (if t177 < 0 then ((rushlightref01_Cut.f (wrap64 (-(wrap64 (Int.tdiv t178 t179))))).bind fun t184 => (some t184)) else ((rushlightref01_Cut.f (wrap64 (Int.tdiv t178 t179))).bind fun t185 => (some t185))) else ((rushlightref01_Cut.f (wrap64 (Int.tdiv t178 t179))).bind fun t186 => (some t186))))))))) = some r := H
  have A3 := Aside0.mk A30
  clear A30
  replace H := Option.bind_eq_some_iff.mp H
  obtain ⟨t177, A40, H⟩ := H
  replace H : (if t177 = 0 then (some 4294967295) else ((rushlightref01_abs.f t176).bind fun t178 => ((rushlightref01_abs.f t177).bind fun t179 => (if t179 = 0 then (none) else (if t176 < 0 then (if t177 > 0 then ((rushlightref01_Cut.f (wrap64 (-(wrap64 (Int.tdiv t178 t179))))).bind fun t180 => (some t180)) else (if t176 > 0 then (if t177 < 0 then ((rushlightref01_Cut.f (wrap64 (-(wrap64 (Int.tdiv t178 t179))))).bind fun t181 => (some t181)) else ((rushlightref01_Cut.f (wrap64 (Int.tdiv t178 t179))).bind fun t182 => (some t182))) else ((rushlightref01_Cut.f (wrap64 (Int.tdiv t178 t179))).bind fun t183 => (some t183)))) else (if t176 > 0 then (if t177 < 0 then ((rushlightref01_Cut.f (wrap64 (-(wrap64 (Int.tdiv t178 t179))))).bind fun t184 => (some t184)) else ((rushlightref01_Cut.f (wrap64 (Int.tdiv t178 t179))).bind fun t185 => (some t185))) else ((rushlightref01_Cut.f (wrap64 (Int.tdiv t178 t179))).bind fun t186 => (some t186)))))))) = some r := H
  have A4 := Aside0.mk A40
  clear A40
  by_cases c5 : t177 = 0
  · rw [if_pos c5] at H
    have c5b0 : (t177 == 0) = true := beq_iff_eq.mpr c5
    have c5b1 : (t177 != 0) = false := bne_eq_false_iff_eq.mpr c5
    clear c5
    obtain rfl := Option.some.inj H
    go_enter Try.func40, Try.ntmps40
    go_wp2_with (first | (go_at_call 34; (with_reducible refine (rushlightref01_Signed.calls a0 t176 _ A3.out).mono ?_); rintro e w' ⟨rfl, ⟨nd, rfl⟩⟩) | (go_at_call 34; (with_reducible refine (rushlightref01_Signed.calls a1 t177 _ A4.out).mono ?_); rintro e w' ⟨rfl, ⟨nd, rfl⟩⟩))
    go_ret
    exact ⟨by first | rfl | (simp; done) | (simp [*]; done), by repeat (first | exact Drawn0.refl _ | apply Drawn0.step)⟩
  · rw [if_neg c5] at H
    have c5b0 : (t177 == 0) = false := beq_eq_false_iff_ne.mpr c5
    have c5b1 : (t177 != 0) = true := bne_iff_ne.mpr c5
    replace H := Option.bind_eq_some_iff.mp H
    obtain ⟨t178, A60, H⟩ := H
    replace H : ((rushlightref01_abs.f t177).bind fun t179 => (if t179 = 0 then (none) else (if t176 < 0 then (if t177 > 0 then ((rushlightref01_Cut.f (wrap64 (-(wrap64 (Int.tdiv t178 t179))))).bind fun t180 => (some t180)) else (if t176 > 0 then (if t177 < 0 then ((rushlightref01_Cut.f (wrap64 (-(wrap64 (Int.tdiv t178 t179))))).bind fun t181 => (some t181)) else ((rushlightref01_Cut.f (wrap64 (Int.tdiv t178 t179))).bind fun t182 => (some t182))) else ((rushlightref01_Cut.f (wrap64 (Int.tdiv t178 t179))).bind fun t183 => (some t183)))) else (if t176 > 0 then (if t177 < 0 then ((rushlightref01_Cut.f (wrap64 (-(wrap64 (Int.tdiv t178 t179))))).bind fun t184 => (some t184)) else ((rushlightref01_Cut.f (wrap64 (Int.tdiv t178 t179))).bind fun t185 => (some t185))) else ((rushlightref01_Cut.f (wrap64 (Int.tdiv t178 t179))).bind fun t186 => (some t186)))))) = some r := H
    have A6 := Aside0.mk A60
    clear A60
    replace H := Option.bind_eq_some_iff.mp H
    obtain ⟨t179, A70, H⟩ := H
    replace H : (if t179 = 0 then (none) else (if t176 < 0 then (if t177 > 0 then ((rushlightref01_Cut.f (wrap64 (-(wrap64 (Int.tdiv t178 t179))))).bind fun t180 => (some t180)) else (if t176 > 0 then (if t177 < 0 then ((rushlightref01_Cut.f (wrap64 (-(wrap64 (Int.tdiv t178 t179))))).bind fun t181 => (some t181)) else ((rushlightref01_Cut.f (wrap64 (Int.tdiv t178 t179))).bind fun t182 => (some t182))) else ((rushlightref01_Cut.f (wrap64 (Int.tdiv t178 t179))).bind fun t183 => (some t183)))) else (if t176 > 0 then (if t177 < 0 then ((rushlightref01_Cut.f (wrap64 (-(wrap64 (Int.tdiv t178 t179))))).bind fun t184 => (some t184)) else ((rushlightref01_Cut.f (wrap64 (Int.tdiv t178 t179))).bind fun t185 => (some t185))) else ((rushlightref01_Cut.f (wrap64 (Int.tdiv t178 t179))).bind fun t186 => (some t186))))) = some r := H
    have A7 := Aside0.mk A70
    clear A70
    by_cases c8 : t179 = 0
    · rw [if_pos c8] at H
      exact absurd H (by simp)
    · rw [if_neg c8] at H
      have c8b0 : (t179 == 0) = false := beq_eq_false_iff_ne.mpr c8
      have c8b1 : (t179 != 0) = true := bne_iff_ne.mpr c8
      by_cases c9 : t176 < 0
      · rw [if_pos c9] at H
        have c9b0 : decide (t176 < 0) = true := decide_eq_true c9
        clear c9
        by_cases c10 : t177 > 0
        · rw [if_pos c10] at H
          have c10b0 : decide (0 < t177) = true := decide_eq_true c10
          clear c10
          replace H := Option.bind_eq_some_iff.mp H
          obtain ⟨t180, A110, H⟩ := H
          replace H : (some t180) = some r := H
          have A11 := Aside0.mk A110
          clear A110
          obtain rfl := Option.some.inj H
          go_enter Try.func40, Try.ntmps40
          go_wp2_with (first | (go_at_call 34; (with_reducible refine (rushlightref01_Signed.calls a0 t176 _ A3.out).mono ?_); rintro e w' ⟨rfl, ⟨nd, rfl⟩⟩) | (go_at_call 34; (with_reducible refine (rushlightref01_Signed.calls a1 t177 _ A4.out).mono ?_); rintro e w' ⟨rfl, ⟨nd, rfl⟩⟩) | (go_at_call 55; (with_reducible refine (rushlightref01_abs.calls t176 t178 _ A6.out).mono ?_); rintro e w' ⟨rfl, ⟨nd, rfl⟩⟩) | (go_at_call 55; (with_reducible refine (rushlightref01_abs.calls t177 t179 _ A7.out).mono ?_); rintro e w' ⟨rfl, ⟨nd, rfl⟩⟩) | (go_at_call 48; (with_reducible refine (rushlightref01_Cut.calls (wrap64 (-(wrap64 (Int.tdiv t178 t179)))) t180 _ A11.out).mono ?_); rintro e w' ⟨rfl, ⟨nd, rfl⟩⟩))
          go_ret
          exact ⟨by first | rfl | (simp; done) | (simp [*]; done), by repeat (first | exact Drawn0.refl _ | apply Drawn0.step)⟩
        · rw [if_neg c10] at H
          have c10b0 : decide (0 < t177) = false := decide_eq_false c10
          clear c10
          by_cases c12 : t176 > 0
          · rw [if_pos c12] at H
            have c12b0 : decide (0 < t176) = true := decide_eq_true c12
            clear c12
            by_cases c13 : t177 < 0
            · rw [if_pos c13] at H
              have c13b0 : decide (t177 < 0) = true := decide_eq_true c13
              clear c13
              replace H := Option.bind_eq_some_iff.mp H
              obtain ⟨t181, A140, H⟩ := H
              replace H : (some t181) = some r := H
              have A14 := Aside0.mk A140
              clear A140
              obtain rfl := Option.some.inj H
              go_enter Try.func40, Try.ntmps40
              go_wp2_with (first | (go_at_call 34; (with_reducible refine (rushlightref01_Signed.calls a0 t176 _ A3.out).mono ?_); rintro e w' ⟨rfl, ⟨nd, rfl⟩⟩) | (go_at_call 34; (with_reducible refine (rushlightref01_Signed.calls a1 t177 _ A4.out).mono ?_); rintro e w' ⟨rfl, ⟨nd, rfl⟩⟩) | (go_at_call 55; (with_reducible refine (rushlightref01_abs.calls t176 t178 _ A6.out).mono ?_); rintro e w' ⟨rfl, ⟨nd, rfl⟩⟩) | (go_at_call 55; (with_reducible refine (rushlightref01_abs.calls t177 t179 _ A7.out).mono ?_); rintro e w' ⟨rfl, ⟨nd, rfl⟩⟩) | (go_at_call 48; (with_reducible refine (rushlightref01_Cut.calls (wrap64 (-(wrap64 (Int.tdiv t178 t179)))) t181 _ A14.out).mono ?_); rintro e w' ⟨rfl, ⟨nd, rfl⟩⟩))
              go_ret
              exact ⟨by first | rfl | (simp; done) | (simp [*]; done), by repeat (first | exact Drawn0.refl _ | apply Drawn0.step)⟩
            · rw [if_neg c13] at H
              have c13b0 : decide (t177 < 0) = false := decide_eq_false c13
              clear c13
              replace H := Option.bind_eq_some_iff.mp H
              obtain ⟨t182, A150, H⟩ := H
              replace H : (some t182) = some r := H
              have A15 := Aside0.mk A150
              clear A150
              obtain rfl := Option.some.inj H
              go_enter Try.func40, Try.ntmps40
              go_wp2_with (first | (go_at_call 34; (with_reducible refine (rushlightref01_Signed.calls a0 t176 _ A3.out).mono ?_); rintro e w' ⟨rfl, ⟨nd, rfl⟩⟩) | (go_at_call 34; (with_reducible refine (rushlightref01_Signed.calls a1 t177 _ A4.out).mono ?_); rintro e w' ⟨rfl, ⟨nd, rfl⟩⟩) | (go_at_call 55; (with_reducible refine (rushlightref01_abs.calls t176 t178 _ A6.out).mono ?_); rintro e w' ⟨rfl, ⟨nd, rfl⟩⟩) | (go_at_call 55; (with_reducible refine (rushlightref01_abs.calls t177 t179 _ A7.out).mono ?_); rintro e w' ⟨rfl, ⟨nd, rfl⟩⟩) | (go_at_call 48; (with_reducible refine (rushlightref01_Cut.calls (wrap64 (Int.tdiv t178 t179)) t182 _ A15.out).mono ?_); rintro e w' ⟨rfl, ⟨nd, rfl⟩⟩))
              go_ret
              exact ⟨by first | rfl | (simp; done) | (simp [*]; done), by repeat (first | exact Drawn0.refl _ | apply Drawn0.step)⟩
          · rw [if_neg c12] at H
            have c12b0 : decide (0 < t176) = false := decide_eq_false c12
            clear c12
            replace H := Option.bind_eq_some_iff.mp H
            obtain ⟨t183, A160, H⟩ := H
            replace H : (some t183) = some r := H
            have A16 := Aside0.mk A160
            clear A160
            obtain rfl := Option.some.inj H
            go_enter Try.func40, Try.ntmps40
            go_wp2_with (first | (go_at_call 34; (with_reducible refine (rushlightref01_Signed.calls a0 t176 _ A3.out).mono ?_); rintro e w' ⟨rfl, ⟨nd, rfl⟩⟩) | (go_at_call 34; (with_reducible refine (rushlightref01_Signed.calls a1 t177 _ A4.out).mono ?_); rintro e w' ⟨rfl, ⟨nd, rfl⟩⟩) | (go_at_call 55; (with_reducible refine (rushlightref01_abs.calls t176 t178 _ A6.out).mono ?_); rintro e w' ⟨rfl, ⟨nd, rfl⟩⟩) | (go_at_call 55; (with_reducible refine (rushlightref01_abs.calls t177 t179 _ A7.out).mono ?_); rintro e w' ⟨rfl, ⟨nd, rfl⟩⟩) | (go_at_call 48; (with_reducible refine (rushlightref01_Cut.calls (wrap64 (Int.tdiv t178 t179)) t183 _ A16.out).mono ?_); rintro e w' ⟨rfl, ⟨nd, rfl⟩⟩))
            go_ret
            exact ⟨by first | rfl | (simp; done) | (simp [*]; done), by repeat (first | exact Drawn0.refl _ | apply Drawn0.step)⟩
      · rw [if_neg c9] at H
        have c9b0 : decide (t176 < 0) = false := decide_eq_false c9
        clear c9
        by_cases c17 : t176 > 0
        · rw [if_pos c17] at H
          have c17b0 : decide (0 < t176) = true := decide_eq_true c17
          clear c17
          by_cases c18 : t177 < 0
          · rw [if_pos c18] at H
            have c18b0 : decide (t177 < 0) = true := decide_eq_true c18
            clear c18
            replace H := Option.bind_eq_some_iff.mp H
            obtain ⟨t184, A190, H⟩ := H
            replace H : (some t184) = some r := H
            have A19 := Aside0.mk A190
            clear A190
            obtain rfl := Option.some.inj H
            go_enter Try.func40, Try.ntmps40
            go_wp2_with (first | (go_at_call 34; (with_reducible refine (rushlightref01_Signed.calls a0 t176 _ A3.out).mono ?_); rintro e w' ⟨rfl, ⟨nd, rfl⟩⟩) | (go_at_call 34; (with_reducible refine (rushlightref01_Signed.calls a1 t177 _ A4.out).mono ?_); rintro e w' ⟨rfl, ⟨nd, rfl⟩⟩) | (go_at_call 55; (with_reducible refine (rushlightref01_abs.calls t176 t178 _ A6.out).mono ?_); rintro e w' ⟨rfl, ⟨nd, rfl⟩⟩) | (go_at_call 55; (with_reducible refine (rushlightref01_abs.calls t177 t179 _ A7.out).mono ?_); rintro e w' ⟨rfl, ⟨nd, rfl⟩⟩) | (go_at_call 48; (with_reducible refine (rushlightref01_Cut.calls (wrap64 (-(wrap64 (Int.tdiv t178 t179)))) t184 _ A19.out).mono ?_); rintro e w' ⟨rfl, ⟨nd, rfl⟩⟩))
            go_ret
            exact ⟨by first | rfl | (simp; done) | (simp [*]; done), by repeat (first | exact Drawn0.refl _ | apply Drawn0.step)⟩
          · rw [if_neg c18] at H
            have c18b0 : decide (t177 < 0) = false := decide_eq_false c18
            clear c18
            replace H := Option.bind_eq_some_iff.mp H
            obtain ⟨t185, A200, H⟩ := H
            replace H : (some t185) = some r := H
            have A20 := Aside0.mk A200
            clear A200
            obtain rfl := Option.some.inj H
            go_enter Try.func40, Try.ntmps40
            go_wp2_with (first | (go_at_call 34; (with_reducible refine (rushlightref01_Signed.calls a0 t176 _ A3.out).mono ?_); rintro e w' ⟨rfl, ⟨nd, rfl⟩⟩) | (go_at_call 34; (with_reducible refine (rushlightref01_Signed.calls a1 t177 _ A4.out).mono ?_); rintro e w' ⟨rfl, ⟨nd, rfl⟩⟩) | (go_at_call 55; (with_reducible refine (rushlightref01_abs.calls t176 t178 _ A6.out).mono ?_); rintro e w' ⟨rfl, ⟨nd, rfl⟩⟩) | (go_at_call 55; (with_reducible refine (rushlightref01_abs.calls t177 t179 _ A7.out).mono ?_); rintro e w' ⟨rfl, ⟨nd, rfl⟩⟩) | (go_at_call 48; (with_reducible refine (rushlightref01_Cut.calls (wrap64 (Int.tdiv t178 t179)) t185 _ A20.out).mono ?_); rintro e w' ⟨rfl, ⟨nd, rfl⟩⟩))
            go_ret
            exact ⟨by first | rfl | (simp; done) | (simp [*]; done), by repeat (first | exact Drawn0.refl _ | apply Drawn0.step)⟩
        · rw [if_neg c17] at H
          have c17b0 : decide (0 < t176) = false := decide_eq_false c17
          clear c17
          replace H := Option.bind_eq_some_iff.mp H
          obtain ⟨t186, A210, H⟩ := H
          replace H : (some t186) = some r := H
          have A21 := Aside0.mk A210
          clear A210
          obtain rfl := Option.some.inj H
          go_enter Try.func40, Try.ntmps40
          go_wp2_with (first | (go_at_call 34; (with_reducible refine (rushlightref01_Signed.calls a0 t176 _ A3.out).mono ?_); rintro e w' ⟨rfl, ⟨nd, rfl⟩⟩) | (go_at_call 34; (with_reducible refine (rushlightref01_Signed.calls a1 t177 _ A4.out).mono ?_); rintro e w' ⟨rfl, ⟨nd, rfl⟩⟩) | (go_at_call 55; (with_reducible refine (rushlightref01_abs.calls t176 t178 _ A6.out).mono ?_); rintro e w' ⟨rfl, ⟨nd, rfl⟩⟩) | (go_at_call 55; (with_reducible refine (rushlightref01_abs.calls t177 t179 _ A7.out).mono ?_); rintro e w' ⟨rfl, ⟨nd, rfl⟩⟩) | (go_at_call 48; (with_reducible refine (rushlightref01_Cut.calls (wrap64 (Int.tdiv t178 t179)) t186 _ A21.out).mono ?_); rintro e w' ⟨rfl, ⟨nd, rfl⟩⟩))
          go_ret
          exact ⟨by first | rfl | (simp; done) | (simp [*]; done), by repeat (first | exact Drawn0.refl _ | apply Drawn0.step)⟩

/-! ### rushlightref01_Rem: function 42 -/
def rushlightref01_Rem.f (a0 : Int) (a1 : Int) : Option (Int) := (rushlightref01_Signed.f a0).bind fun t187 => ((rushlightref01_Signed.f a1).bind fun t188 => (if t188 = 0 then (some a0) else ((rushlightref01_abs.f t187).bind fun t189 => ((rushlightref01_abs.f t188).bind fun t190 => (if t190 = 0 then (none) else (if t187 < 0 then ((rushlightref01_Cut.f (wrap64 (-(Int.tmod t189 t190)))).bind fun t191 => (some t191)) else ((rushlightref01_Cut.f (Int.tmod t189 t190)).bind fun t192 => (some t192))))))))
set_option maxHeartbeats 8000000 in
set_option maxRecDepth 100000 in
theorem rushlightref01_Rem.calls (a0 : Int) (a1 : Int) (r : Int) (w : World) (h : rushlightref01_Rem.f a0 a1 = some r) :
    Calls Try.prog 42 #[.int .u32 a0, .int .u32 a1] w fun e w' => e = .returned (.int .u32 r) ∧ Drawn0 w w' := by
  have H : ((rushlightref01_Signed.f a0).bind fun t187 => ((rushlightref01_Signed.f a1).bind fun t188 => (if t188 = 0 then (some a0) else ((rushlightref01_abs.f t187).bind fun t189 => ((rushlightref01_abs.f t188).bind fun t190 => (if t190 = 0 then (none) else (if t187 < 0 then ((rushlightref01_Cut.f (wrap64 (-(Int.tmod t189 t190)))).bind fun t191 => (some t191)) else ((rushlightref01_Cut.f (Int.tmod t189 t190)).bind fun t192 => (some t192))))))))) = some r := h
  clear h
  replace H := Option.bind_eq_some_iff.mp H
  obtain ⟨t187, A30, H⟩ := H
  replace H : ((rushlightref01_Signed.f a1).bind fun t188 => (if t188 = 0 then (some a0) else ((rushlightref01_abs.f t187).bind fun t189 => ((rushlightref01_abs.f t188).bind fun t190 => (if t190 = 0 then (none) else (if t187 < 0 then ((rushlightref01_Cut.f (wrap64 (-(Int.tmod t189 t190)))).bind fun t191 => (some t191)) else ((rushlightref01_Cut.f (Int.tmod t189 t190)).bind fun t192 => (some t192)))))))) = some r := H
  have A3 := Aside0.mk A30
  clear A30
  replace H := Option.bind_eq_some_iff.mp H
  obtain ⟨t188, A40, H⟩ := H
  replace H : (if t188 = 0 then (some a0) else ((rushlightref01_abs.f t187).bind fun t189 => ((rushlightref01_abs.f t188).bind fun t190 => (if t190 = 0 then (none) else (if t187 < 0 then ((rushlightref01_Cut.f (wrap64 (-(Int.tmod t189 t190)))).bind fun t191 => (some t191)) else ((rushlightref01_Cut.f (Int.tmod t189 t190)).bind fun t192 => (some t192))))))) = some r := H
  have A4 := Aside0.mk A40
  clear A40
  by_cases c5 : t188 = 0
  · rw [if_pos c5] at H
    have c5b0 : (t188 == 0) = true := beq_iff_eq.mpr c5
    have c5b1 : (t188 != 0) = false := bne_eq_false_iff_eq.mpr c5
    clear c5
    obtain rfl := Option.some.inj H
    go_enter Try.func42, Try.ntmps42
    go_wp2_with (first | (go_at_call 34; (with_reducible refine (rushlightref01_Signed.calls a0 t187 _ A3.out).mono ?_); rintro e w' ⟨rfl, ⟨nd, rfl⟩⟩) | (go_at_call 34; (with_reducible refine (rushlightref01_Signed.calls a1 t188 _ A4.out).mono ?_); rintro e w' ⟨rfl, ⟨nd, rfl⟩⟩))
    go_ret
    exact ⟨by first | rfl | (simp; done) | (simp [*]; done), by repeat (first | exact Drawn0.refl _ | apply Drawn0.step)⟩
  · rw [if_neg c5] at H
    have c5b0 : (t188 == 0) = false := beq_eq_false_iff_ne.mpr c5
    have c5b1 : (t188 != 0) = true := bne_iff_ne.mpr c5
    replace H := Option.bind_eq_some_iff.mp H
    obtain ⟨t189, A60, H⟩ := H
    replace H : ((rushlightref01_abs.f t188).bind fun t190 => (if t190 = 0 then (none) else (if t187 < 0 then ((rushlightref01_Cut.f (wrap64 (-(Int.tmod t189 t190)))).bind fun t191 => (some t191)) else ((rushlightref01_Cut.f (Int.tmod t189 t190)).bind fun t192 => (some t192))))) = some r := H
    have A6 := Aside0.mk A60
    clear A60
    replace H := Option.bind_eq_some_iff.mp H
    obtain ⟨t190, A70, H⟩ := H
    replace H : (if t190 = 0 then (none) else (if t187 < 0 then ((rushlightref01_Cut.f (wrap64 (-(Int.tmod t189 t190)))).bind fun t191 => (some t191)) else ((rushlightref01_Cut.f (Int.tmod t189 t190)).bind fun t192 => (some t192)))) = some r := H
    have A7 := Aside0.mk A70
    clear A70
    by_cases c8 : t190 = 0
    · rw [if_pos c8] at H
      exact absurd H (by simp)
    · rw [if_neg c8] at H
      have c8b0 : (t190 == 0) = false := beq_eq_false_iff_ne.mpr c8
      have c8b1 : (t190 != 0) = true := bne_iff_ne.mpr c8
      by_cases c9 : t187 < 0
      · rw [if_pos c9] at H
        have c9b0 : decide (t187 < 0) = true := decide_eq_true c9
        clear c9
        replace H := Option.bind_eq_some_iff.mp H
        obtain ⟨t191, A100, H⟩ := H
        replace H : (some t191) = some r := H
        have A10 := Aside0.mk A100
        clear A100
        obtain rfl := Option.some.inj H
        go_enter Try.func42, Try.ntmps42
        go_wp2_with (first | (go_at_call 34; (with_reducible refine (rushlightref01_Signed.calls a0 t187 _ A3.out).mono ?_); rintro e w' ⟨rfl, ⟨nd, rfl⟩⟩) | (go_at_call 34; (with_reducible refine (rushlightref01_Signed.calls a1 t188 _ A4.out).mono ?_); rintro e w' ⟨rfl, ⟨nd, rfl⟩⟩) | (go_at_call 55; (with_reducible refine (rushlightref01_abs.calls t187 t189 _ A6.out).mono ?_); rintro e w' ⟨rfl, ⟨nd, rfl⟩⟩) | (go_at_call 55; (with_reducible refine (rushlightref01_abs.calls t188 t190 _ A7.out).mono ?_); rintro e w' ⟨rfl, ⟨nd, rfl⟩⟩) | (go_at_call 48; (with_reducible refine (rushlightref01_Cut.calls (wrap64 (-(Int.tmod t189 t190))) t191 _ A10.out).mono ?_); rintro e w' ⟨rfl, ⟨nd, rfl⟩⟩))
        go_ret
        exact ⟨by first | rfl | (simp; done) | (simp [*]; done), by repeat (first | exact Drawn0.refl _ | apply Drawn0.step)⟩
      · rw [if_neg c9] at H
        have c9b0 : decide (t187 < 0) = false := decide_eq_false c9
        clear c9
        replace H := Option.bind_eq_some_iff.mp H
        obtain ⟨t192, A110, H⟩ := H
        replace H : (some t192) = some r := H
        have A11 := Aside0.mk A110
        clear A110
        obtain rfl := Option.some.inj H
        go_enter Try.func42, Try.ntmps42
        go_wp2_with (first | (go_at_call 34; (with_reducible refine (rushlightref01_Signed.calls a0 t187 _ A3.out).mono ?_); rintro e w' ⟨rfl, ⟨nd, rfl⟩⟩) | (go_at_call 34; (with_reducible refine (rushlightref01_Signed.calls a1 t188 _ A4.out).mono ?_); rintro e w' ⟨rfl, ⟨nd, rfl⟩⟩) | (go_at_call 55; (with_reducible refine (rushlightref01_abs.calls t187 t189 _ A6.out).mono ?_); rintro e w' ⟨rfl, ⟨nd, rfl⟩⟩) | (go_at_call 55; (with_reducible refine (rushlightref01_abs.calls t188 t190 _ A7.out).mono ?_); rintro e w' ⟨rfl, ⟨nd, rfl⟩⟩) | (go_at_call 48; (with_reducible refine (rushlightref01_Cut.calls (Int.tmod t189 t190) t192 _ A11.out).mono ?_); rintro e w' ⟨rfl, ⟨nd, rfl⟩⟩))
        go_ret
        exact ⟨by first | rfl | (simp; done) | (simp [*]; done), by repeat (first | exact Drawn0.refl _ | apply Drawn0.step)⟩

/-! ### word_DivU: function 43 -/
def word_DivU.f (a0 : Int) (a1 : Int) : Option (Int) := if a1 = 0 then (some 4294967295) else (some ((Int.tdiv a0 a1) % 4294967296))
set_option maxHeartbeats 8000000 in
set_option maxRecDepth 100000 in
theorem word_DivU.calls (a0 : Int) (a1 : Int) (r : Int) (w : World) (h : word_DivU.f a0 a1 = some r) :
    Calls Try.prog 43 #[.int .u32 a0, .int .u32 a1] w fun e w' => e = .returned (.int .u32 r) ∧ Drawn0 w w' := by
  have H : (if a1 = 0 then (some 4294967295) else (some ((Int.tdiv a0 a1) % 4294967296))) = some r := h
  clear h
  by_cases c3 : a1 = 0
  · rw [if_pos c3] at H
    have c3b0 : (a1 == 0) = true := beq_iff_eq.mpr c3
    have c3b1 : (a1 != 0) = false := bne_eq_false_iff_eq.mpr c3
    clear c3
    obtain rfl := Option.some.inj H
    go_enter Try.func43, Try.ntmps43
    go_wp2
    go_ret
    exact ⟨by first | rfl | (simp; done) | (simp [*]; done), by repeat (first | exact Drawn0.refl _ | apply Drawn0.step)⟩
  · rw [if_neg c3] at H
    have c3b0 : (a1 == 0) = false := beq_eq_false_iff_ne.mpr c3
    have c3b1 : (a1 != 0) = true := bne_iff_ne.mpr c3
    obtain rfl := Option.some.inj H
    go_enter Try.func43, Try.ntmps43
    go_wp2
    go_ret
    exact ⟨by first | rfl | (simp; done) | (simp [*]; done), by repeat (first | exact Drawn0.refl _ | apply Drawn0.step)⟩

/-! ### rushlightref01_DivU: function 44 -/
def rushlightref01_DivU.f (a0 : Int) (a1 : Int) : Option (Int) := if a1 = 0 then (some 4294967295) else (if (wrap64 (a1)) = 0 then (none) else (some ((wrap64 (Int.tdiv (wrap64 (a0)) (wrap64 (a1)))) % 4294967296)))
set_option maxHeartbeats 8000000 in
set_option maxRecDepth 100000 in
theorem rushlightref01_DivU.calls (a0 : Int) (a1 : Int) (r : Int) (w : World) (h : rushlightref01_DivU.f a0 a1 = some r) :
    Calls Try.prog 44 #[.int .u32 a0, .int .u32 a1] w fun e w' => e = .returned (.int .u32 r) ∧ Drawn0 w w' := by
  have H : (if a1 = 0 then (some 4294967295) else (if (wrap64 (a1)) = 0 then (none) else (some ((wrap64 (Int.tdiv (wrap64 (a0)) (wrap64 (a1)))) % 4294967296)))) = some r := h
  clear h
  by_cases c3 : a1 = 0
  · rw [if_pos c3] at H
    have c3b0 : (a1 == 0) = true := beq_iff_eq.mpr c3
    have c3b1 : (a1 != 0) = false := bne_eq_false_iff_eq.mpr c3
    clear c3
    obtain rfl := Option.some.inj H
    go_enter Try.func44, Try.ntmps44
    go_wp2
    go_ret
    exact ⟨by first | rfl | (simp; done) | (simp [*]; done), by repeat (first | exact Drawn0.refl _ | apply Drawn0.step)⟩
  · rw [if_neg c3] at H
    have c3b0 : (a1 == 0) = false := beq_eq_false_iff_ne.mpr c3
    have c3b1 : (a1 != 0) = true := bne_iff_ne.mpr c3
    by_cases c4 : (wrap64 (a1)) = 0
    · rw [if_pos c4] at H
      exact absurd H (by simp)
    · rw [if_neg c4] at H
      have c4b0 : ((wrap64 (a1)) == 0) = false := beq_eq_false_iff_ne.mpr c4
      have c4b1 : ((wrap64 (a1)) != 0) = true := bne_iff_ne.mpr c4
      obtain rfl := Option.some.inj H
      go_enter Try.func44, Try.ntmps44
      go_wp2
      go_ret
      exact ⟨by first | rfl | (simp; done) | (simp [*]; done), by repeat (first | exact Drawn0.refl _ | apply Drawn0.step)⟩

/-! ### word_RemU: function 45 -/
def word_RemU.f (a0 : Int) (a1 : Int) : Option (Int) := if a1 = 0 then (some a0) else (some (Int.tmod a0 a1))
set_option maxHeartbeats 8000000 in
set_option maxRecDepth 100000 in
theorem word_RemU.calls (a0 : Int) (a1 : Int) (r : Int) (w : World) (h : word_RemU.f a0 a1 = some r) :
    Calls Try.prog 45 #[.int .u32 a0, .int .u32 a1] w fun e w' => e = .returned (.int .u32 r) ∧ Drawn0 w w' := by
  have H : (if a1 = 0 then (some a0) else (some (Int.tmod a0 a1))) = some r := h
  clear h
  by_cases c3 : a1 = 0
  · rw [if_pos c3] at H
    have c3b0 : (a1 == 0) = true := beq_iff_eq.mpr c3
    have c3b1 : (a1 != 0) = false := bne_eq_false_iff_eq.mpr c3
    clear c3
    obtain rfl := Option.some.inj H
    go_enter Try.func45, Try.ntmps45
    go_wp2
    go_ret
    exact ⟨by first | rfl | (simp; done) | (simp [*]; done), by repeat (first | exact Drawn0.refl _ | apply Drawn0.step)⟩
  · rw [if_neg c3] at H
    have c3b0 : (a1 == 0) = false := beq_eq_false_iff_ne.mpr c3
    have c3b1 : (a1 != 0) = true := bne_iff_ne.mpr c3
    obtain rfl := Option.some.inj H
    go_enter Try.func45, Try.ntmps45
    go_wp2
    go_ret
    exact ⟨by first | rfl | (simp; done) | (simp [*]; done), by repeat (first | exact Drawn0.refl _ | apply Drawn0.step)⟩

/-! ### rushlightref01_RemU: function 46 -/
def rushlightref01_RemU.f (a0 : Int) (a1 : Int) : Option (Int) := if a1 = 0 then (some a0) else (if (wrap64 (a1)) = 0 then (none) else (some ((Int.tmod (wrap64 (a0)) (wrap64 (a1))) % 4294967296)))
set_option maxHeartbeats 8000000 in
set_option maxRecDepth 100000 in
theorem rushlightref01_RemU.calls (a0 : Int) (a1 : Int) (r : Int) (w : World) (h : rushlightref01_RemU.f a0 a1 = some r) :
    Calls Try.prog 46 #[.int .u32 a0, .int .u32 a1] w fun e w' => e = .returned (.int .u32 r) ∧ Drawn0 w w' := by
  have H : (if a1 = 0 then (some a0) else (if (wrap64 (a1)) = 0 then (none) else (some ((Int.tmod (wrap64 (a0)) (wrap64 (a1))) % 4294967296)))) = some r := h
  clear h
  by_cases c3 : a1 = 0
  · rw [if_pos c3] at H
    have c3b0 : (a1 == 0) = true := beq_iff_eq.mpr c3
    have c3b1 : (a1 != 0) = false := bne_eq_false_iff_eq.mpr c3
    clear c3
    obtain rfl := Option.some.inj H
    go_enter Try.func46, Try.ntmps46
    go_wp2
    go_ret
    exact ⟨by first | rfl | (simp; done) | (simp [*]; done), by repeat (first | exact Drawn0.refl _ | apply Drawn0.step)⟩
  · rw [if_neg c3] at H
    have c3b0 : (a1 == 0) = false := beq_eq_false_iff_ne.mpr c3
    have c3b1 : (a1 != 0) = true := bne_iff_ne.mpr c3
    by_cases c4 : (wrap64 (a1)) = 0
    · rw [if_pos c4] at H
      exact absurd H (by simp)
    · rw [if_neg c4] at H
      have c4b0 : ((wrap64 (a1)) == 0) = false := beq_eq_false_iff_ne.mpr c4
      have c4b1 : ((wrap64 (a1)) != 0) = true := bne_iff_ne.mpr c4
      obtain rfl := Option.some.inj H
      go_enter Try.func46, Try.ntmps46
      go_wp2
      go_ret
      exact ⟨by first | rfl | (simp; done) | (simp [*]; done), by repeat (first | exact Drawn0.refl _ | apply Drawn0.step)⟩

/-! ### rushlightlaw01_WordParts: function 9 -/
def rushlightlaw01_WordParts.f (a0 : Int) (a1 : Int) : Option (Bool) := (rushlightlaw01_awake.f).bind fun t193 => (if t193 = true then ((word_Div.f a0 a1).bind fun t194 => ((rushlightref01_Div.f a0 a1).bind fun t195 => (if t194 = t195 then ((word_Rem.f a0 a1).bind fun t196 => ((rushlightref01_Rem.f a0 a1).bind fun t197 => (if t196 = t197 then ((word_DivU.f a0 a1).bind fun t198 => ((rushlightref01_DivU.f a0 a1).bind fun t199 => (if t198 = t199 then ((word_RemU.f a0 a1).bind fun t200 => ((rushlightref01_RemU.f a0 a1).bind fun t201 => (some (t200 == t201)))) else (some false)))) else (some false)))) else (some false)))) else (some false))
set_option maxHeartbeats 8000000 in
set_option maxRecDepth 100000 in
theorem rushlightlaw01_WordParts.calls (a0 : Int) (a1 : Int) (r : Bool) (w : World) (h : rushlightlaw01_WordParts.f a0 a1 = some r) :
    Calls Try.prog 9 #[.int .u32 a0, .int .u32 a1] w fun e w' => e = .returned (.bool r) ∧ Drawn0 w w' := by
  have H : ((rushlightlaw01_awake.f).bind fun t193 => (if t193 = true then ((word_Div.f a0 a1).bind fun t194 => ((rushlightref01_Div.f a0 a1).bind fun t195 => (if t194 = t195 then ((word_Rem.f a0 a1).bind fun t196 => ((rushlightref01_Rem.f a0 a1).bind fun t197 => (if t196 = t197 then ((word_DivU.f a0 a1).bind fun t198 => ((rushlightref01_DivU.f a0 a1).bind fun t199 => (if t198 = t199 then ((word_RemU.f a0 a1).bind fun t200 => ((rushlightref01_RemU.f a0 a1).bind fun t201 => (some (t200 == t201)))) else (some false)))) else (some false)))) else (some false)))) else (some false))) = some r := h
  clear h
  replace H := Option.bind_eq_some_iff.mp H
  obtain ⟨t193, A30, H⟩ := H
  replace H : (if t193 = true then ((word_Div.f a0 a1).bind fun t194 => ((rushlightref01_Div.f a0 a1).bind fun t195 => (if t194 = t195 then ((word_Rem.f a0 a1).bind fun t196 => ((rushlightref01_Rem.f a0 a1).bind fun t197 => (if t196 = t197 then ((word_DivU.f a0 a1).bind fun t198 => ((rushlightref01_DivU.f a0 a1).bind fun t199 => (if t198 = t199 then ((word_RemU.f a0 a1).bind fun t200 => ((rushlightref01_RemU.f a0 a1).bind fun t201 => (some (t200 == t201)))) else (some false)))) else (some false)))) else (some false)))) else (some false)) = some r := H
  have A3 := Aside0.mk A30
  clear A30
  by_cases c4 : t193 = true
  · subst c4
    have H1 : ((word_Div.f a0 a1).bind fun t194 => ((rushlightref01_Div.f a0 a1).bind fun t195 => (if t194 = t195 then ((word_Rem.f a0 a1).bind fun t196 => ((rushlightref01_Rem.f a0 a1).bind fun t197 => (if t196 = t197 then ((word_DivU.f a0 a1).bind fun t198 => ((rushlightref01_DivU.f a0 a1).bind fun t199 => (if t198 = t199 then ((word_RemU.f a0 a1).bind fun t200 => ((rushlightref01_RemU.f a0 a1).bind fun t201 => (some (t200 == t201)))) else (some false)))) else (some false)))) else (some false)))) = some r := by rw [if_pos rfl] at H; exact H
    clear H
    have H := H1
    clear H1
    replace H := Option.bind_eq_some_iff.mp H
    obtain ⟨t194, A50, H⟩ := H
    replace H : ((rushlightref01_Div.f a0 a1).bind fun t195 => (if t194 = t195 then ((word_Rem.f a0 a1).bind fun t196 => ((rushlightref01_Rem.f a0 a1).bind fun t197 => (if t196 = t197 then ((word_DivU.f a0 a1).bind fun t198 => ((rushlightref01_DivU.f a0 a1).bind fun t199 => (if t198 = t199 then ((word_RemU.f a0 a1).bind fun t200 => ((rushlightref01_RemU.f a0 a1).bind fun t201 => (some (t200 == t201)))) else (some false)))) else (some false)))) else (some false))) = some r := H
    have A5 := Aside0.mk A50
    clear A50
    replace H := Option.bind_eq_some_iff.mp H
    obtain ⟨t195, A60, H⟩ := H
    replace H : (if t194 = t195 then ((word_Rem.f a0 a1).bind fun t196 => ((rushlightref01_Rem.f a0 a1).bind fun t197 => (if t196 = t197 then ((word_DivU.f a0 a1).bind fun t198 => ((rushlightref01_DivU.f a0 a1).bind fun t199 => (if t198 = t199 then ((word_RemU.f a0 a1).bind fun t200 => ((rushlightref01_RemU.f a0 a1).bind fun t201 => (some (t200 == t201)))) else (some false)))) else (some false)))) else (some false)) = some r := H
    have A6 := Aside0.mk A60
    clear A60
    by_cases c7 : t194 = t195
    · rw [if_pos c7] at H
      have c7b0 : (t194 == t195) = true := beq_iff_eq.mpr c7
      have c7b1 : (t194 != t195) = false := bne_eq_false_iff_eq.mpr c7
      clear c7
      replace H := Option.bind_eq_some_iff.mp H
      obtain ⟨t196, A80, H⟩ := H
      replace H : ((rushlightref01_Rem.f a0 a1).bind fun t197 => (if t196 = t197 then ((word_DivU.f a0 a1).bind fun t198 => ((rushlightref01_DivU.f a0 a1).bind fun t199 => (if t198 = t199 then ((word_RemU.f a0 a1).bind fun t200 => ((rushlightref01_RemU.f a0 a1).bind fun t201 => (some (t200 == t201)))) else (some false)))) else (some false))) = some r := H
      have A8 := Aside0.mk A80
      clear A80
      replace H := Option.bind_eq_some_iff.mp H
      obtain ⟨t197, A90, H⟩ := H
      replace H : (if t196 = t197 then ((word_DivU.f a0 a1).bind fun t198 => ((rushlightref01_DivU.f a0 a1).bind fun t199 => (if t198 = t199 then ((word_RemU.f a0 a1).bind fun t200 => ((rushlightref01_RemU.f a0 a1).bind fun t201 => (some (t200 == t201)))) else (some false)))) else (some false)) = some r := H
      have A9 := Aside0.mk A90
      clear A90
      by_cases c10 : t196 = t197
      · rw [if_pos c10] at H
        have c10b0 : (t196 == t197) = true := beq_iff_eq.mpr c10
        have c10b1 : (t196 != t197) = false := bne_eq_false_iff_eq.mpr c10
        clear c10
        replace H := Option.bind_eq_some_iff.mp H
        obtain ⟨t198, A110, H⟩ := H
        replace H : ((rushlightref01_DivU.f a0 a1).bind fun t199 => (if t198 = t199 then ((word_RemU.f a0 a1).bind fun t200 => ((rushlightref01_RemU.f a0 a1).bind fun t201 => (some (t200 == t201)))) else (some false))) = some r := H
        have A11 := Aside0.mk A110
        clear A110
        replace H := Option.bind_eq_some_iff.mp H
        obtain ⟨t199, A120, H⟩ := H
        replace H : (if t198 = t199 then ((word_RemU.f a0 a1).bind fun t200 => ((rushlightref01_RemU.f a0 a1).bind fun t201 => (some (t200 == t201)))) else (some false)) = some r := H
        have A12 := Aside0.mk A120
        clear A120
        by_cases c13 : t198 = t199
        · rw [if_pos c13] at H
          have c13b0 : (t198 == t199) = true := beq_iff_eq.mpr c13
          have c13b1 : (t198 != t199) = false := bne_eq_false_iff_eq.mpr c13
          clear c13
          replace H := Option.bind_eq_some_iff.mp H
          obtain ⟨t200, A140, H⟩ := H
          replace H : ((rushlightref01_RemU.f a0 a1).bind fun t201 => (some (t200 == t201))) = some r := H
          have A14 := Aside0.mk A140
          clear A140
          replace H := Option.bind_eq_some_iff.mp H
          obtain ⟨t201, A150, H⟩ := H
          replace H : (some (t200 == t201)) = some r := H
          have A15 := Aside0.mk A150
          clear A150
          obtain rfl := Option.some.inj H
          go_enter Try.func9, Try.ntmps9
          go_wp2_with (first | (go_at_call 12; (with_reducible refine (rushlightlaw01_awake.calls  true _ A3.out).mono ?_); rintro e w' ⟨rfl, ⟨nd, rfl⟩⟩) | (go_at_call 39; (with_reducible refine (word_Div.calls a0 a1 t194 _ A5.out).mono ?_); rintro e w' ⟨rfl, ⟨nd, rfl⟩⟩) | (go_at_call 40; (with_reducible refine (rushlightref01_Div.calls a0 a1 t195 _ A6.out).mono ?_); rintro e w' ⟨rfl, ⟨nd, rfl⟩⟩) | (go_at_call 41; (with_reducible refine (word_Rem.calls a0 a1 t196 _ A8.out).mono ?_); rintro e w' ⟨rfl, ⟨nd, rfl⟩⟩) | (go_at_call 42; (with_reducible refine (rushlightref01_Rem.calls a0 a1 t197 _ A9.out).mono ?_); rintro e w' ⟨rfl, ⟨nd, rfl⟩⟩) | (go_at_call 43; (with_reducible refine (word_DivU.calls a0 a1 t198 _ A11.out).mono ?_); rintro e w' ⟨rfl, ⟨nd, rfl⟩⟩) | (go_at_call 44; (with_reducible refine (rushlightref01_DivU.calls a0 a1 t199 _ A12.out).mono ?_); rintro e w' ⟨rfl, ⟨nd, rfl⟩⟩) | (go_at_call 45; (with_reducible refine (word_RemU.calls a0 a1 t200 _ A14.out).mono ?_); rintro e w' ⟨rfl, ⟨nd, rfl⟩⟩) | (go_at_call 46; (with_reducible refine (rushlightref01_RemU.calls a0 a1 t201 _ A15.out).mono ?_); rintro e w' ⟨rfl, ⟨nd, rfl⟩⟩))
          go_ret
          exact ⟨by first | rfl | (simp; done) | (simp [*]; done), by repeat (first | exact Drawn0.refl _ | apply Drawn0.step)⟩
        · rw [if_neg c13] at H
          have c13b0 : (t198 == t199) = false := beq_eq_false_iff_ne.mpr c13
          have c13b1 : (t198 != t199) = true := bne_iff_ne.mpr c13
          obtain rfl := Option.some.inj H
          go_enter Try.func9, Try.ntmps9
          go_wp2_with (first | (go_at_call 12; (with_reducible refine (rushlightlaw01_awake.calls  true _ A3.out).mono ?_); rintro e w' ⟨rfl, ⟨nd, rfl⟩⟩) | (go_at_call 39; (with_reducible refine (word_Div.calls a0 a1 t194 _ A5.out).mono ?_); rintro e w' ⟨rfl, ⟨nd, rfl⟩⟩) | (go_at_call 40; (with_reducible refine (rushlightref01_Div.calls a0 a1 t195 _ A6.out).mono ?_); rintro e w' ⟨rfl, ⟨nd, rfl⟩⟩) | (go_at_call 41; (with_reducible refine (word_Rem.calls a0 a1 t196 _ A8.out).mono ?_); rintro e w' ⟨rfl, ⟨nd, rfl⟩⟩) | (go_at_call 42; (with_reducible refine (rushlightref01_Rem.calls a0 a1 t197 _ A9.out).mono ?_); rintro e w' ⟨rfl, ⟨nd, rfl⟩⟩) | (go_at_call 43; (with_reducible refine (word_DivU.calls a0 a1 t198 _ A11.out).mono ?_); rintro e w' ⟨rfl, ⟨nd, rfl⟩⟩) | (go_at_call 44; (with_reducible refine (rushlightref01_DivU.calls a0 a1 t199 _ A12.out).mono ?_); rintro e w' ⟨rfl, ⟨nd, rfl⟩⟩))
          go_ret
          exact ⟨by first | rfl | (simp; done) | (simp [*]; done), by repeat (first | exact Drawn0.refl _ | apply Drawn0.step)⟩
      · rw [if_neg c10] at H
        have c10b0 : (t196 == t197) = false := beq_eq_false_iff_ne.mpr c10
        have c10b1 : (t196 != t197) = true := bne_iff_ne.mpr c10
        obtain rfl := Option.some.inj H
        go_enter Try.func9, Try.ntmps9
        go_wp2_with (first | (go_at_call 12; (with_reducible refine (rushlightlaw01_awake.calls  true _ A3.out).mono ?_); rintro e w' ⟨rfl, ⟨nd, rfl⟩⟩) | (go_at_call 39; (with_reducible refine (word_Div.calls a0 a1 t194 _ A5.out).mono ?_); rintro e w' ⟨rfl, ⟨nd, rfl⟩⟩) | (go_at_call 40; (with_reducible refine (rushlightref01_Div.calls a0 a1 t195 _ A6.out).mono ?_); rintro e w' ⟨rfl, ⟨nd, rfl⟩⟩) | (go_at_call 41; (with_reducible refine (word_Rem.calls a0 a1 t196 _ A8.out).mono ?_); rintro e w' ⟨rfl, ⟨nd, rfl⟩⟩) | (go_at_call 42; (with_reducible refine (rushlightref01_Rem.calls a0 a1 t197 _ A9.out).mono ?_); rintro e w' ⟨rfl, ⟨nd, rfl⟩⟩))
        go_ret
        exact ⟨by first | rfl | (simp; done) | (simp [*]; done), by repeat (first | exact Drawn0.refl _ | apply Drawn0.step)⟩
    · rw [if_neg c7] at H
      have c7b0 : (t194 == t195) = false := beq_eq_false_iff_ne.mpr c7
      have c7b1 : (t194 != t195) = true := bne_iff_ne.mpr c7
      obtain rfl := Option.some.inj H
      go_enter Try.func9, Try.ntmps9
      go_wp2_with (first | (go_at_call 12; (with_reducible refine (rushlightlaw01_awake.calls  true _ A3.out).mono ?_); rintro e w' ⟨rfl, ⟨nd, rfl⟩⟩) | (go_at_call 39; (with_reducible refine (word_Div.calls a0 a1 t194 _ A5.out).mono ?_); rintro e w' ⟨rfl, ⟨nd, rfl⟩⟩) | (go_at_call 40; (with_reducible refine (rushlightref01_Div.calls a0 a1 t195 _ A6.out).mono ?_); rintro e w' ⟨rfl, ⟨nd, rfl⟩⟩))
      go_ret
      exact ⟨by first | rfl | (simp; done) | (simp [*]; done), by repeat (first | exact Drawn0.refl _ | apply Drawn0.step)⟩
  · replace c4 := Bool.eq_false_iff.mpr c4
    subst c4
    have H1 : (some false) = some r := by rw [if_neg (show ¬ (false = true) by decide)] at H; exact H
    clear H
    have H := H1
    clear H1
    obtain rfl := Option.some.inj H
    go_enter Try.func9, Try.ntmps9
    go_wp2_with (first | (go_at_call 12; (with_reducible refine (rushlightlaw01_awake.calls  false _ A3.out).mono ?_); rintro e w' ⟨rfl, ⟨nd, rfl⟩⟩))
    go_ret
    exact ⟨by first | rfl | (simp; done) | (simp [*]; done), by repeat (first | exact Drawn0.refl _ | apply Drawn0.step)⟩

/-- THE ONE PURE STATEMENT of rushlightlaw01_WordParts: yours. -/
def rushlightlaw01_WordParts.Pure : Prop := ∀ (a0 : Int) (a1 : Int), (Lit.int .u32 a0).wf = true → (Lit.int .u32 a1).wf = true → rushlightlaw01_WordParts.f a0 a1 = some true
theorem rushlightlaw01_WordParts.walk (P : rushlightlaw01_WordParts.Pure) (a0 : Int) (a1 : Int) (w : World) (w0 : (Lit.int .u32 a0).wf = true) (w1 : (Lit.int .u32 a1).wf = true) :
    Calls Try.prog 9 #[.int .u32 a0, .int .u32 a1] w fun e w' => e = .returned (.bool true) ∧ Below w.heap.size w w' := by
  have h := P a0 a1 w0 w1
  refine (rushlightlaw01_WordParts.calls a0 a1 true w h).mono ?_
  rintro e w' ⟨rfl, hd⟩
  exact ⟨rfl, hd.below⟩

end Go.Proofs.Ytoinjjlefckhhaa.All
