-- Written by this session's own program (wip/tools/myprint.py over the kit's printer), functions proved by hand among them. Not trusted: Lean checks it.
import Derived.Test.YtoinjjlefckhhaaAll0
namespace Go.Proofs.Ytoinjjlefckhhaa.All
open Go.RowKit Go.Proofs.YtoinjjlefckhhaaW.PrintWords Go.Proofs.YtoinjjlefckhhaaW.PrintLast Go.Proofs.YtoinjjlefckhhaaW.PrintMore
attribute [local go_sem] max2_int min2_int max_two min_two max_three min_three max_four min_four   -- for this text's walks alone
set_option linter.unusedVariables false
set_option linter.unusedSimpArgs false

/-! ### word_Sign: function 13 -/
def word_Sign.f (a0 : Int) (a1 : Int) : Option (Int) := if a1 < 1 then (some a0) else (if a1 > 31 then (some a0) else (if 0 ≤ (wrap64 (32 - a1)) then (some ((shr .i32 (wrap32 (shl .u32 a0 (wrap64 (32 - a1)))) (wrap64 (32 - a1))) % 4294967296)) else (none)))
set_option maxHeartbeats 8000000 in
set_option maxRecDepth 100000 in
theorem word_Sign.calls (a0 : Int) (a1 : Int) (r : Int) (w : World) (h : word_Sign.f a0 a1 = some r) :
    Calls Try.prog 13 #[.int .u32 a0, .int .i64 a1] w fun e w' => e = .returned (.int .u32 r) ∧ Drawn0 w w' := by
  have H : (if a1 < 1 then (some a0) else (if a1 > 31 then (some a0) else (if 0 ≤ (wrap64 (32 - a1)) then (some ((shr .i32 (wrap32 (shl .u32 a0 (wrap64 (32 - a1)))) (wrap64 (32 - a1))) % 4294967296)) else (none)))) = some r := h
  clear h
  by_cases c3 : a1 < 1
  · rw [if_pos c3] at H
    have c3b0 : decide (a1 < 1) = true := decide_eq_true c3
    clear c3
    obtain rfl := Option.some.inj H
    go_enter Try.func13, Try.ntmps13
    go_wp2
    go_ret
    exact ⟨by first | rfl | (simp; done) | (simp [*]; done), by repeat (first | exact Drawn0.refl _ | apply Drawn0.step)⟩
  · rw [if_neg c3] at H
    have c3b0 : decide (a1 < 1) = false := decide_eq_false c3
    clear c3
    by_cases c4 : a1 > 31
    · rw [if_pos c4] at H
      have c4b0 : decide (31 < a1) = true := decide_eq_true c4
      clear c4
      obtain rfl := Option.some.inj H
      go_enter Try.func13, Try.ntmps13
      go_wp2
      go_ret
      exact ⟨by first | rfl | (simp; done) | (simp [*]; done), by repeat (first | exact Drawn0.refl _ | apply Drawn0.step)⟩
    · rw [if_neg c4] at H
      have c4b0 : decide (31 < a1) = false := decide_eq_false c4
      clear c4
      obtain ⟨ji5, hji5⟩ : ∃ j_ : Int, (wrap64 (32 - a1)) = j_ := ⟨_, rfl⟩
      replace H : (if 0 ≤ (ji5) then (some ((shr .i32 (wrap32 (shl .u32 a0 (ji5))) (ji5)) % 4294967296)) else (none)) = some r := by first | (rw [hji5] at H; exact H) | (simp only [hji5] at H ⊢; exact H)
      have hji5w : (IntKind.i64.wrap (32 - a1)) = ji5 := (i64_w _).trans hji5
      by_cases c6 : 0 ≤ (ji5)
      · rw [if_pos c6] at H
        have c6b0 := eq_true c6
        have c6b1 : decide (0 ≤ (ji5)) = true := decide_eq_true c6
        clear c6
        obtain ⟨ji7, hji7⟩ : ∃ j_ : Int, (shl .u32 a0 (ji5)) = j_ := ⟨_, rfl⟩
        replace H : (some ((shr .i32 (wrap32 (ji7)) (ji5)) % 4294967296)) = some r := by first | (rw [hji7] at H; exact H) | (simp only [hji7] at H ⊢; exact H)
        have hji7_ : (IntKind.u32.wrap (a0 * 2 ^ min (ji5).toNat 32)) = ji7 := hji7
        have hji7z : (ji5) ≤ 32 → (IntKind.u32.wrap (a0 * 2 ^ (ji5).toNat)) = ji7 := shl_small hji7
        have c8b0 := eq_true (of_decide_eq_true (by first | (with_reducible assumption) | assumption) : 0 ≤ (ji5))
        obtain ⟨ji9, hji9⟩ : ∃ j_ : Int, (shr .i32 (wrap32 (ji7)) (ji5)) = j_ := ⟨_, rfl⟩
        replace H : (some ((ji9) % 4294967296)) = some r := by first | (rw [hji9] at H; exact H) | (simp only [hji9] at H ⊢; exact H)
        have hji9_ : ((wrap32 (ji7)) / 2 ^ min (ji5).toNat 32) = ji9 := hji9
        have hji9z : (ji5) ≤ 32 → ((wrap32 (ji7)) / 2 ^ (ji5).toNat) = ji9 := shr_small hji9
        obtain rfl := Option.some.inj H
        go_enter Try.func13, Try.ntmps13
        go_wp2
        go_ret
        exact ⟨by first | rfl | (simp; done) | (simp only [← hji5, ← hji7, ← hji9] <;> (first | rfl | simp)) | (simp [*]; done), by repeat (first | exact Drawn0.refl _ | apply Drawn0.step)⟩
      · rw [if_neg c6] at H
        exact absurd H (by simp)

/-! ### word_Parts: function 11 -/
def word_Parts.f (a0 : Int) : Option (Int × Int) := (word_Sign.f a0 12).bind fun t101 => (some ((a0 - t101) % 4294967296, t101))
set_option maxHeartbeats 8000000 in
set_option maxRecDepth 100000 in
theorem word_Parts.calls (a0 : Int) (r1 : Int) (r2 : Int) (w : World) (h : word_Parts.f a0 = some (r1, r2)) :
    Calls Try.prog 11 #[.int .u32 a0] w fun e w' => e = .returned (.tuple #[.int .u32 r1, .int .u32 r2]) ∧ Drawn0 w w' := by
  have H : ((word_Sign.f a0 12).bind fun t101 => (some ((a0 - t101) % 4294967296, t101))) = some (r1, r2) := h
  clear h
  replace H := Option.bind_eq_some_iff.mp H
  obtain ⟨t101, A20, H⟩ := H
  replace H : (some ((a0 - t101) % 4294967296, t101)) = some (r1, r2) := H
  have A2 := Aside0.mk A20
  clear A20
  simp only [Option.some.injEq, Prod.mk.injEq] at H
  obtain ⟨rfl, rfl⟩ := H
  go_enter Try.func11, Try.ntmps11
  go_wp2_with (first | (go_at_call 13; (with_reducible refine (word_Sign.calls a0 12 t101 _ A2.out).mono ?_); rintro e w' ⟨rfl, ⟨nd, rfl⟩⟩))
  go_ret2
  exact ⟨by first | rfl | (simp; done) | (simp [*]; done), by repeat (first | exact Drawn0.refl _ | apply Drawn0.step)⟩

/-! ### word_RightS: function 20 -/
def word_RightS.f (a0 : Int) (a1 : Int) : Option (Int) := if 0 ≤ (Go.bits .and .u32 a1 31) then (some ((shr .i32 (wrap32 (a0)) (Go.bits .and .u32 a1 31)) % 4294967296)) else (none)
set_option maxHeartbeats 8000000 in
set_option maxRecDepth 100000 in
theorem word_RightS.calls (a0 : Int) (a1 : Int) (r : Int) (w : World) (h : word_RightS.f a0 a1 = some r) :
    Calls Try.prog 20 #[.int .u32 a0, .int .u32 a1] w fun e w' => e = .returned (.int .u32 r) ∧ Drawn0 w w' := by
  have H : (if 0 ≤ (Go.bits .and .u32 a1 31) then (some ((shr .i32 (wrap32 (a0)) (Go.bits .and .u32 a1 31)) % 4294967296)) else (none)) = some r := h
  clear h
  by_cases c3 : 0 ≤ (Go.bits .and .u32 a1 31)
  · rw [if_pos c3] at H
    have c3b0 := eq_true c3
    have c3b1 : decide (0 ≤ (Go.bits .and .u32 a1 31)) = true := decide_eq_true c3
    clear c3
    obtain ⟨ji4, hji4⟩ : ∃ j_ : Int, (shr .i32 (wrap32 (a0)) (Go.bits .and .u32 a1 31)) = j_ := ⟨_, rfl⟩
    replace H : (some ((ji4) % 4294967296)) = some r := by first | (rw [hji4] at H; exact H) | (simp only [hji4] at H ⊢; exact H)
    have hji4_ : ((wrap32 (a0)) / 2 ^ min (Go.bits .and .u32 a1 31).toNat 32) = ji4 := hji4
    have hji4z : (Go.bits .and .u32 a1 31) ≤ 32 → ((wrap32 (a0)) / 2 ^ (Go.bits .and .u32 a1 31).toNat) = ji4 := shr_small hji4
    obtain rfl := Option.some.inj H
    go_enter Try.func20, Try.ntmps20
    go_wp2
    go_ret
    exact ⟨by first | rfl | (simp; done) | (simp only [← hji4] <;> (first | rfl | simp)) | (simp [*]; done), by repeat (first | exact Drawn0.refl _ | apply Drawn0.step)⟩
  · rw [if_neg c3] at H
    exact absurd H (by simp)

-- NOT PRINTED: function 51 (word_signed)

/-! ### word_Div: function 39 (by hand) -/
def word_Div.f (a0 : Int) (a1 : Int) : Option (Int) := if a1 = 0 then (some 4294967295) else (if (wrap64 (wrap32 a1)) = 0 then (none) else (some (wrap64 ((wrap64 (wrap32 a0)).tdiv (wrap64 (wrap32 a1))) % 4294967296)))
set_option maxHeartbeats 8000000 in
set_option maxRecDepth 100000 in
theorem word_Div.calls (a0 : Int) (a1 : Int) (r : Int) (w : World) (h : word_Div.f a0 a1 = some r) :
    Calls Try.prog 39 #[.int .u32 a0, .int .u32 a1] w fun e w' => e = .returned (.int .u32 r) ∧ Drawn0 w w' := by
  have H : (if a1 = 0 then (some 4294967295) else (if (wrap64 (wrap32 a1)) = 0 then (none) else (some (wrap64 ((wrap64 (wrap32 a0)).tdiv (wrap64 (wrap32 a1))) % 4294967296)))) = some r := h
  clear h
  by_cases c1 : a1 = 0
  · rw [if_pos c1] at H
    have cb : (a1 == 0) = true := beq_iff_eq.mpr c1
    clear c1
    obtain rfl := Option.some.inj H
    go_enter Try.func39, Try.ntmps39
    go_wp2
    go_ret
    exact ⟨by first | rfl | (simp; done) | (simp [*]; done), by repeat (first | exact Drawn0.refl _ | apply Drawn0.step)⟩
  · rw [if_neg c1] at H
    have cb : (a1 == 0) = false := beq_eq_false_iff_ne.mpr c1
    clear c1
    by_cases c2 : wrap64 (wrap32 a1) = 0
    · rw [if_pos c2] at H; exact absurd H (by simp)
    · rw [if_neg c2] at H
      have cb2 : (wrap64 (wrap32 a1) == 0) = false := beq_eq_false_iff_ne.mpr c2
      obtain rfl := Option.some.inj H
      go_enter Try.func39, Try.ntmps39
      go_wp2
      go_ret
      exact ⟨by first | rfl | (simp; done) | (simp [*]; done), by repeat (first | exact Drawn0.refl _ | apply Drawn0.step)⟩


/-! ### word_Rem: function 41 (by hand) -/
def word_Rem.f (a0 : Int) (a1 : Int) : Option (Int) := if a1 = 0 then (some a0) else (if (wrap64 (wrap32 a1)) = 0 then (none) else (some ((wrap64 (wrap32 a0)).tmod (wrap64 (wrap32 a1)) % 4294967296)))
set_option maxHeartbeats 8000000 in
set_option maxRecDepth 100000 in
theorem word_Rem.calls (a0 : Int) (a1 : Int) (r : Int) (w : World) (h : word_Rem.f a0 a1 = some r) :
    Calls Try.prog 41 #[.int .u32 a0, .int .u32 a1] w fun e w' => e = .returned (.int .u32 r) ∧ Drawn0 w w' := by
  have H : (if a1 = 0 then (some a0) else (if (wrap64 (wrap32 a1)) = 0 then (none) else (some ((wrap64 (wrap32 a0)).tmod (wrap64 (wrap32 a1)) % 4294967296)))) = some r := h
  clear h
  by_cases c1 : a1 = 0
  · rw [if_pos c1] at H
    have cb : (a1 == 0) = true := beq_iff_eq.mpr c1
    clear c1
    obtain rfl := Option.some.inj H
    go_enter Try.func41, Try.ntmps41
    go_wp2
    go_ret
    exact ⟨by first | rfl | (simp; done) | (simp [*]; done), by repeat (first | exact Drawn0.refl _ | apply Drawn0.step)⟩
  · rw [if_neg c1] at H
    have cb : (a1 == 0) = false := beq_eq_false_iff_ne.mpr c1
    clear c1
    by_cases c2 : wrap64 (wrap32 a1) = 0
    · rw [if_pos c2] at H; exact absurd H (by simp)
    · rw [if_neg c2] at H
      have cb2 : (wrap64 (wrap32 a1) == 0) = false := beq_eq_false_iff_ne.mpr c2
      obtain rfl := Option.some.inj H
      go_enter Try.func41, Try.ntmps41
      go_wp2
      go_ret
      exact ⟨by first | rfl | (simp; done) | (simp [*]; done), by repeat (first | exact Drawn0.refl _ | apply Drawn0.step)⟩


/-! ### rushlightlaw01_minus: function 47 -/
def rushlightlaw01_minus.f (a0 : Int) : Option (Int) := some ((-a0) % 4294967296)
set_option maxHeartbeats 8000000 in
set_option maxRecDepth 100000 in
theorem rushlightlaw01_minus.calls (a0 : Int) (r : Int) (w : World) (h : rushlightlaw01_minus.f a0 = some r) :
    Calls Try.prog 47 #[.int .u32 a0] w fun e w' => e = .returned (.int .u32 r) ∧ Drawn0 w w' := by
  have H : (some ((-a0) % 4294967296)) = some r := h
  clear h
  obtain rfl := Option.some.inj H
  go_enter Try.func47, Try.ntmps47
  go_wp2
  go_ret
  exact ⟨by first | rfl | (simp; done) | (simp [*]; done), by repeat (first | exact Drawn0.refl _ | apply Drawn0.step)⟩

/-! ### rushlightlaw01_awake: function 12 -/
def rushlightlaw01_awake.f  : Option (Bool) := (word_Parts.f 4095).bind fun bt102 => ((rushlightlaw01_minus.f 7).bind fun t104 => ((word_Div.f t104 2).bind fun t105 => ((rushlightlaw01_minus.f 3).bind fun t106 => (if t105 = t106 then ((word_Rem.f t104 2).bind fun t107 => ((rushlightlaw01_minus.f 1).bind fun t108 => (if t107 = t108 then ((word_RightS.f t104 1).bind fun t109 => ((rushlightlaw01_minus.f 4).bind fun t110 => (if t109 = t110 then (if bt102.1 = 4096 then (some (bt102.2 == t108)) else (some false)) else (some false)))) else (some false)))) else (some false)))))
set_option maxHeartbeats 8000000 in
set_option maxRecDepth 100000 in
theorem rushlightlaw01_awake.calls  (r : Bool) (w : World) (h : rushlightlaw01_awake.f  = some r) :
    Calls Try.prog 12 #[] w fun e w' => e = .returned (.bool r) ∧ Drawn0 w w' := by
  have H : ((word_Parts.f 4095).bind fun bt102 => ((rushlightlaw01_minus.f 7).bind fun t104 => ((word_Div.f t104 2).bind fun t105 => ((rushlightlaw01_minus.f 3).bind fun t106 => (if t105 = t106 then ((word_Rem.f t104 2).bind fun t107 => ((rushlightlaw01_minus.f 1).bind fun t108 => (if t107 = t108 then ((word_RightS.f t104 1).bind fun t109 => ((rushlightlaw01_minus.f 4).bind fun t110 => (if t109 = t110 then (if bt102.1 = 4096 then (some (bt102.2 == t108)) else (some false)) else (some false)))) else (some false)))) else (some false)))))) = some r := h
  clear h
  replace H := Option.bind_eq_some_iff.mp H
  obtain ⟨⟨t102, t103⟩, A10, H⟩ := H
  replace H : ((rushlightlaw01_minus.f 7).bind fun t104 => ((word_Div.f t104 2).bind fun t105 => ((rushlightlaw01_minus.f 3).bind fun t106 => (if t105 = t106 then ((word_Rem.f t104 2).bind fun t107 => ((rushlightlaw01_minus.f 1).bind fun t108 => (if t107 = t108 then ((word_RightS.f t104 1).bind fun t109 => ((rushlightlaw01_minus.f 4).bind fun t110 => (if t109 = t110 then (if t102 = 4096 then (some (t103 == t108)) else (some false)) else (some false)))) else (some false)))) else (some false))))) = some r := H
  have A1 := Aside0.mk A10
  clear A10
  replace H := Option.bind_eq_some_iff.mp H
  obtain ⟨t104, A20, H⟩ := H
  replace H : ((word_Div.f t104 2).bind fun t105 => ((rushlightlaw01_minus.f 3).bind fun t106 => (if t105 = t106 then ((word_Rem.f t104 2).bind fun t107 => ((rushlightlaw01_minus.f 1).bind fun t108 => (if t107 = t108 then ((word_RightS.f t104 1).bind fun t109 => ((rushlightlaw01_minus.f 4).bind fun t110 => (if t109 = t110 then (if t102 = 4096 then (some (t103 == t108)) else (some false)) else (some false)))) else (some false)))) else (some false)))) = some r := H
  have A2 := Aside0.mk A20
  clear A20
  replace H := Option.bind_eq_some_iff.mp H
  obtain ⟨t105, A30, H⟩ := H
  replace H : ((rushlightlaw01_minus.f 3).bind fun t106 => (if t105 = t106 then ((word_Rem.f t104 2).bind fun t107 => ((rushlightlaw01_minus.f 1).bind fun t108 => (if t107 = t108 then ((word_RightS.f t104 1).bind fun t109 => ((rushlightlaw01_minus.f 4).bind fun t110 => (if t109 = t110 then (if t102 = 4096 then (some (t103 == t108)) else (some false)) else (some false)))) else (some false)))) else (some false))) = some r := H
  have A3 := Aside0.mk A30
  clear A30
  replace H := Option.bind_eq_some_iff.mp H
  obtain ⟨t106, A40, H⟩ := H
  replace H : (if t105 = t106 then ((word_Rem.f t104 2).bind fun t107 => ((rushlightlaw01_minus.f 1).bind fun t108 => (if t107 = t108 then ((word_RightS.f t104 1).bind fun t109 => ((rushlightlaw01_minus.f 4).bind fun t110 => (if t109 = t110 then (if t102 = 4096 then (some (t103 == t108)) else (some false)) else (some false)))) else (some false)))) else (some false)) = some r := H
  have A4 := Aside0.mk A40
  clear A40
  by_cases c5 : t105 = t106
  · rw [if_pos c5] at H
    have c5b0 : (t105 == t106) = true := beq_iff_eq.mpr c5
    have c5b1 : (t105 != t106) = false := bne_eq_false_iff_eq.mpr c5
    clear c5
    replace H := Option.bind_eq_some_iff.mp H
    obtain ⟨t107, A60, H⟩ := H
    replace H : ((rushlightlaw01_minus.f 1).bind fun t108 => (if t107 = t108 then ((word_RightS.f t104 1).bind fun t109 => ((rushlightlaw01_minus.f 4).bind fun t110 => (if t109 = t110 then (if t102 = 4096 then (some (t103 == t108)) else (some false)) else (some false)))) else (some false))) = some r := H
    have A6 := Aside0.mk A60
    clear A60
    replace H := Option.bind_eq_some_iff.mp H
    obtain ⟨t108, A70, H⟩ := H
    replace H : (if t107 = t108 then ((word_RightS.f t104 1).bind fun t109 => ((rushlightlaw01_minus.f 4).bind fun t110 => (if t109 = t110 then (if t102 = 4096 then (some (t103 == t108)) else (some false)) else (some false)))) else (some false)) = some r := H
    have A7 := Aside0.mk A70
    clear A70
    by_cases c8 : t107 = t108
    · rw [if_pos c8] at H
      have c8b0 : (t107 == t108) = true := beq_iff_eq.mpr c8
      have c8b1 : (t107 != t108) = false := bne_eq_false_iff_eq.mpr c8
      clear c8
      replace H := Option.bind_eq_some_iff.mp H
      obtain ⟨t109, A90, H⟩ := H
      replace H : ((rushlightlaw01_minus.f 4).bind fun t110 => (if t109 = t110 then (if t102 = 4096 then (some (t103 == t108)) else (some false)) else (some false))) = some r := H
      have A9 := Aside0.mk A90
      clear A90
      replace H := Option.bind_eq_some_iff.mp H
      obtain ⟨t110, A100, H⟩ := H
      replace H : (if t109 = t110 then (if t102 = 4096 then (some (t103 == t108)) else (some false)) else (some false)) = some r := H
      have A10 := Aside0.mk A100
      clear A100
      by_cases c11 : t109 = t110
      · rw [if_pos c11] at H
        have c11b0 : (t109 == t110) = true := beq_iff_eq.mpr c11
        have c11b1 : (t109 != t110) = false := bne_eq_false_iff_eq.mpr c11
        clear c11
        by_cases c12 : t102 = 4096
        · rw [if_pos c12] at H
          have c12b0 : (t102 == 4096) = true := beq_iff_eq.mpr c12
          have c12b1 : (t102 != 4096) = false := bne_eq_false_iff_eq.mpr c12
          clear c12
          obtain rfl := Option.some.inj H
          go_enter Try.func12, Try.ntmps12
          go_wp2_with (first | (go_at_call 11; (with_reducible refine (word_Parts.calls 4095 t102 t103 _ A1.out).mono ?_); rintro e w' ⟨rfl, ⟨nd, rfl⟩⟩) | (go_at_call 47; (with_reducible refine (rushlightlaw01_minus.calls 7 t104 _ A2.out).mono ?_); rintro e w' ⟨rfl, ⟨nd, rfl⟩⟩) | (go_at_call 39; (with_reducible refine (word_Div.calls t104 2 t105 _ A3.out).mono ?_); rintro e w' ⟨rfl, ⟨nd, rfl⟩⟩) | (go_at_call 47; (with_reducible refine (rushlightlaw01_minus.calls 3 t106 _ A4.out).mono ?_); rintro e w' ⟨rfl, ⟨nd, rfl⟩⟩) | (go_at_call 41; (with_reducible refine (word_Rem.calls t104 2 t107 _ A6.out).mono ?_); rintro e w' ⟨rfl, ⟨nd, rfl⟩⟩) | (go_at_call 47; (with_reducible refine (rushlightlaw01_minus.calls 1 t108 _ A7.out).mono ?_); rintro e w' ⟨rfl, ⟨nd, rfl⟩⟩) | (go_at_call 20; (with_reducible refine (word_RightS.calls t104 1 t109 _ A9.out).mono ?_); rintro e w' ⟨rfl, ⟨nd, rfl⟩⟩) | (go_at_call 47; (with_reducible refine (rushlightlaw01_minus.calls 4 t110 _ A10.out).mono ?_); rintro e w' ⟨rfl, ⟨nd, rfl⟩⟩))
          go_ret
          exact ⟨by first | rfl | (simp; done) | (simp [*]; done), by repeat (first | exact Drawn0.refl _ | apply Drawn0.step)⟩
        · rw [if_neg c12] at H
          have c12b0 : (t102 == 4096) = false := beq_eq_false_iff_ne.mpr c12
          have c12b1 : (t102 != 4096) = true := bne_iff_ne.mpr c12
          obtain rfl := Option.some.inj H
          go_enter Try.func12, Try.ntmps12
          go_wp2_with (first | (go_at_call 11; (with_reducible refine (word_Parts.calls 4095 t102 t103 _ A1.out).mono ?_); rintro e w' ⟨rfl, ⟨nd, rfl⟩⟩) | (go_at_call 47; (with_reducible refine (rushlightlaw01_minus.calls 7 t104 _ A2.out).mono ?_); rintro e w' ⟨rfl, ⟨nd, rfl⟩⟩) | (go_at_call 39; (with_reducible refine (word_Div.calls t104 2 t105 _ A3.out).mono ?_); rintro e w' ⟨rfl, ⟨nd, rfl⟩⟩) | (go_at_call 47; (with_reducible refine (rushlightlaw01_minus.calls 3 t106 _ A4.out).mono ?_); rintro e w' ⟨rfl, ⟨nd, rfl⟩⟩) | (go_at_call 41; (with_reducible refine (word_Rem.calls t104 2 t107 _ A6.out).mono ?_); rintro e w' ⟨rfl, ⟨nd, rfl⟩⟩) | (go_at_call 47; (with_reducible refine (rushlightlaw01_minus.calls 1 t108 _ A7.out).mono ?_); rintro e w' ⟨rfl, ⟨nd, rfl⟩⟩) | (go_at_call 20; (with_reducible refine (word_RightS.calls t104 1 t109 _ A9.out).mono ?_); rintro e w' ⟨rfl, ⟨nd, rfl⟩⟩) | (go_at_call 47; (with_reducible refine (rushlightlaw01_minus.calls 4 t110 _ A10.out).mono ?_); rintro e w' ⟨rfl, ⟨nd, rfl⟩⟩))
          go_ret
          exact ⟨by first | rfl | (simp; done) | (simp [*]; done), by repeat (first | exact Drawn0.refl _ | apply Drawn0.step)⟩
      · rw [if_neg c11] at H
        have c11b0 : (t109 == t110) = false := beq_eq_false_iff_ne.mpr c11
        have c11b1 : (t109 != t110) = true := bne_iff_ne.mpr c11
        obtain rfl := Option.some.inj H
        go_enter Try.func12, Try.ntmps12
        go_wp2_with (first | (go_at_call 11; (with_reducible refine (word_Parts.calls 4095 t102 t103 _ A1.out).mono ?_); rintro e w' ⟨rfl, ⟨nd, rfl⟩⟩) | (go_at_call 47; (with_reducible refine (rushlightlaw01_minus.calls 7 t104 _ A2.out).mono ?_); rintro e w' ⟨rfl, ⟨nd, rfl⟩⟩) | (go_at_call 39; (with_reducible refine (word_Div.calls t104 2 t105 _ A3.out).mono ?_); rintro e w' ⟨rfl, ⟨nd, rfl⟩⟩) | (go_at_call 47; (with_reducible refine (rushlightlaw01_minus.calls 3 t106 _ A4.out).mono ?_); rintro e w' ⟨rfl, ⟨nd, rfl⟩⟩) | (go_at_call 41; (with_reducible refine (word_Rem.calls t104 2 t107 _ A6.out).mono ?_); rintro e w' ⟨rfl, ⟨nd, rfl⟩⟩) | (go_at_call 47; (with_reducible refine (rushlightlaw01_minus.calls 1 t108 _ A7.out).mono ?_); rintro e w' ⟨rfl, ⟨nd, rfl⟩⟩) | (go_at_call 20; (with_reducible refine (word_RightS.calls t104 1 t109 _ A9.out).mono ?_); rintro e w' ⟨rfl, ⟨nd, rfl⟩⟩) | (go_at_call 47; (with_reducible refine (rushlightlaw01_minus.calls 4 t110 _ A10.out).mono ?_); rintro e w' ⟨rfl, ⟨nd, rfl⟩⟩))
        go_ret
        exact ⟨by first | rfl | (simp; done) | (simp [*]; done), by repeat (first | exact Drawn0.refl _ | apply Drawn0.step)⟩
    · rw [if_neg c8] at H
      have c8b0 : (t107 == t108) = false := beq_eq_false_iff_ne.mpr c8
      have c8b1 : (t107 != t108) = true := bne_iff_ne.mpr c8
      obtain rfl := Option.some.inj H
      go_enter Try.func12, Try.ntmps12
      go_wp2_with (first | (go_at_call 11; (with_reducible refine (word_Parts.calls 4095 t102 t103 _ A1.out).mono ?_); rintro e w' ⟨rfl, ⟨nd, rfl⟩⟩) | (go_at_call 47; (with_reducible refine (rushlightlaw01_minus.calls 7 t104 _ A2.out).mono ?_); rintro e w' ⟨rfl, ⟨nd, rfl⟩⟩) | (go_at_call 39; (with_reducible refine (word_Div.calls t104 2 t105 _ A3.out).mono ?_); rintro e w' ⟨rfl, ⟨nd, rfl⟩⟩) | (go_at_call 47; (with_reducible refine (rushlightlaw01_minus.calls 3 t106 _ A4.out).mono ?_); rintro e w' ⟨rfl, ⟨nd, rfl⟩⟩) | (go_at_call 41; (with_reducible refine (word_Rem.calls t104 2 t107 _ A6.out).mono ?_); rintro e w' ⟨rfl, ⟨nd, rfl⟩⟩) | (go_at_call 47; (with_reducible refine (rushlightlaw01_minus.calls 1 t108 _ A7.out).mono ?_); rintro e w' ⟨rfl, ⟨nd, rfl⟩⟩))
      go_ret
      exact ⟨by first | rfl | (simp; done) | (simp [*]; done), by repeat (first | exact Drawn0.refl _ | apply Drawn0.step)⟩
  · rw [if_neg c5] at H
    have c5b0 : (t105 == t106) = false := beq_eq_false_iff_ne.mpr c5
    have c5b1 : (t105 != t106) = true := bne_iff_ne.mpr c5
    obtain rfl := Option.some.inj H
    go_enter Try.func12, Try.ntmps12
    go_wp2_with (first | (go_at_call 11; (with_reducible refine (word_Parts.calls 4095 t102 t103 _ A1.out).mono ?_); rintro e w' ⟨rfl, ⟨nd, rfl⟩⟩) | (go_at_call 47; (with_reducible refine (rushlightlaw01_minus.calls 7 t104 _ A2.out).mono ?_); rintro e w' ⟨rfl, ⟨nd, rfl⟩⟩) | (go_at_call 39; (with_reducible refine (word_Div.calls t104 2 t105 _ A3.out).mono ?_); rintro e w' ⟨rfl, ⟨nd, rfl⟩⟩) | (go_at_call 47; (with_reducible refine (rushlightlaw01_minus.calls 3 t106 _ A4.out).mono ?_); rintro e w' ⟨rfl, ⟨nd, rfl⟩⟩))
    go_ret
    exact ⟨by first | rfl | (simp; done) | (simp [*]; done), by repeat (first | exact Drawn0.refl _ | apply Drawn0.step)⟩

/-! ### rushlightref01_Cut: function 48 -/
def rushlightref01_Cut.f (a0 : Int) : Option (Int) := if (Int.tmod a0 4294967296) < 0 then (some ((wrap64 ((Int.tmod a0 4294967296) + 4294967296)) % 4294967296)) else (some ((Int.tmod a0 4294967296) % 4294967296))
set_option maxHeartbeats 8000000 in
set_option maxRecDepth 100000 in
theorem rushlightref01_Cut.calls (a0 : Int) (r : Int) (w : World) (h : rushlightref01_Cut.f a0 = some r) :
    Calls Try.prog 48 #[.int .i64 a0] w fun e w' => e = .returned (.int .u32 r) ∧ Drawn0 w w' := by
  have H : (if (Int.tmod a0 4294967296) < 0 then (some ((wrap64 ((Int.tmod a0 4294967296) + 4294967296)) % 4294967296)) else (some ((Int.tmod a0 4294967296) % 4294967296))) = some r := h
  clear h
  by_cases c2 : (Int.tmod a0 4294967296) < 0
  · rw [if_pos c2] at H
    have c2b0 : decide ((Int.tmod a0 4294967296) < 0) = true := decide_eq_true c2
    clear c2
    obtain rfl := Option.some.inj H
    go_enter Try.func48, Try.ntmps48
    go_wp2
    go_ret
    exact ⟨by first | rfl | (simp; done) | (simp [*]; done), by repeat (first | exact Drawn0.refl _ | apply Drawn0.step)⟩
  · rw [if_neg c2] at H
    have c2b0 : decide ((Int.tmod a0 4294967296) < 0) = false := decide_eq_false c2
    clear c2
    obtain rfl := Option.some.inj H
    go_enter Try.func48, Try.ntmps48
    go_wp2
    go_ret
    exact ⟨by first | rfl | (simp; done) | (simp [*]; done), by repeat (first | exact Drawn0.refl _ | apply Drawn0.step)⟩

/-! ### rushlightref01_Sign: function 14 -/
mutual
def rushlightref01_Sign.j0 : Nat → Int → Int → Bool → Option (Int)
  | 0, _, _, _ => none
  | k + 1, x0, x1, x13 => if x13 = true then (some x0) else (rushlightref01_Sign.l0 k x0 x1 1 0)
def rushlightref01_Sign.l0 : Nat → Int → Int → Int → Int → Option (Int)
  | 0, _, _, _, _ => none
  | k + 1, x0, x1, x5, x6 => if x6 < x1 then (rushlightref01_Sign.l0 k x0 x1 (wrap64 (2 * x5)) (wrap64 (x6 + 1))) else (if x5 = 0 then (none) else (if (Int.tmod (wrap64 (x0)) x5) ≥ (wrap64 (Int.tdiv x5 2)) then ((rushlightref01_Cut.f (wrap64 ((Int.tmod (wrap64 (x0)) x5) - x5))).bind fun t111 => (some t111)) else ((rushlightref01_Cut.f (Int.tmod (wrap64 (x0)) x5)).bind fun t112 => (some t112))))
end
def rushlightref01_Sign.f (k : Nat) (a0 : Int) (a1 : Int) : Option (Int) := if a1 < 1 then (rushlightref01_Sign.j0 k a0 a1 true) else (rushlightref01_Sign.j0 k a0 a1 (decide (a1 > 31)))
theorem rushlightref01_Sign.mono_l : ∀ k, (∀ y0 y1 y2, LeO (rushlightref01_Sign.j0 k y0 y1 y2) (rushlightref01_Sign.j0 (k + 1) y0 y1 y2)) ∧ (∀ y0 y1 y2 y3, LeO (rushlightref01_Sign.l0 k y0 y1 y2 y3) (rushlightref01_Sign.l0 (k + 1) y0 y1 y2 y3))
  | 0 => ⟨fun _ _ _ r h => by simp [rushlightref01_Sign.j0] at h, fun _ _ _ _ r h => by simp [rushlightref01_Sign.l0] at h⟩
  | k + 1 => by
    obtain ⟨ih0, ih1⟩ := rushlightref01_Sign.mono_l k
    refine ⟨?_, ?_⟩
    · intro y0 y1 y2
      unfold rushlightref01_Sign.j0
      repeat' first
      | (with_reducible exact ih0 _ _ _)
      | (with_reducible exact ih1 _ _ _ _)
      | (with_reducible exact LeO.refl _)
      | (with_reducible exact LeO.none _)
      | (with_reducible refine LeO.ite ?_ ?_)
      | (with_reducible refine LeO.bind ?_ (fun _ => ?_))
      | exact ih0 _ _ _
      | exact ih1 _ _ _ _
      | exact LeO.none _
      | refine LeO.ite ?_ ?_
      | refine LeO.bind ?_ (fun _ => ?_)
    · intro y0 y1 y2 y3
      unfold rushlightref01_Sign.l0
      repeat' first
      | (with_reducible exact ih0 _ _ _)
      | (with_reducible exact ih1 _ _ _ _)
      | (with_reducible exact LeO.refl _)
      | (with_reducible exact LeO.none _)
      | (with_reducible refine LeO.ite ?_ ?_)
      | (with_reducible refine LeO.bind ?_ (fun _ => ?_))
      | exact ih0 _ _ _
      | exact ih1 _ _ _ _
      | exact LeO.none _
      | refine LeO.ite ?_ ?_
      | refine LeO.bind ?_ (fun _ => ?_)
theorem rushlightref01_Sign.mono : ∀ a0 a1 k, LeO (rushlightref01_Sign.f k a0 a1) (rushlightref01_Sign.f (k + 1) a0 a1) := by
  intro a0 a1 k
  obtain ⟨ih0, ih1⟩ := rushlightref01_Sign.mono_l k
  unfold rushlightref01_Sign.f
  repeat' first
      | (with_reducible exact ih0 _ _ _)
      | (with_reducible exact ih1 _ _ _ _)
      | (with_reducible exact LeO.refl _)
      | (with_reducible exact LeO.none _)
      | (with_reducible refine LeO.ite ?_ ?_)
      | (with_reducible refine LeO.bind ?_ (fun _ => ?_))
      | exact ih0 _ _ _
      | exact ih1 _ _ _ _
      | exact LeO.none _
      | refine LeO.ite ?_ ?_
      | refine LeO.bind ?_ (fun _ => ?_)
set_option maxHeartbeats 8000000 in
set_option maxRecDepth 100000 in
theorem rushlightref01_Sign.calls (k : Nat) (a0 : Int) (a1 : Int) (r : Int) (w : World) (h : rushlightref01_Sign.f k a0 a1 = some r) :
    Calls Try.prog 14 #[.int .u32 a0, .int .i64 a1] w fun e w' => e = .returned (.int .u32 r) ∧ Drawn0 w w' := by
  have H : (if a1 < 1 then (rushlightref01_Sign.j0 k a0 a1 true) else (rushlightref01_Sign.j0 k a0 a1 (decide (a1 > 31)))) = some r := h
  clear h
  have HC3 := Aside0.mk H
  clear H
  go_enter Try.func14, Try.ntmps14
  go_upto_region 1 with (fail)
  go_cut [13] (fun v13 wc => ∃ (kq : Nat) (x13_2 : Bool), v13 = .bool x13_2 ∧ Aside0 (rushlightref01_Sign.j0 kq a0 a1 x13_2 = some r) ∧ Aside0 (kq ≤ k) ∧ Drawn0 w wc)
  case first =>
    have H := HC3.out
    clear HC3
    by_cases c4 : a1 < 1
    · rw [if_pos c4] at H
      have c4b0 : decide (a1 < 1) = true := decide_eq_true c4
      clear c4
      (first | rw [c4b0] | (simp only [i64_w, i32_w]; rw [c4b0]) | skip)
      have H' := Aside0.mk H
      clear H
      go_wp2
      go_meet
      case rel => exact ⟨_, (true), (by first | rfl | (simp; done) | (simp [*]; done)), H', ⟨by first | omega | exact Nat.le_refl _⟩, by repeat (first | exact Drawn0.refl _ | apply Drawn0.step)⟩
    · rw [if_neg c4] at H
      have c4b0 : decide (a1 < 1) = false := decide_eq_false c4
      clear c4
      (first | rw [c4b0] | (simp only [i64_w, i32_w]; rw [c4b0]) | skip)
      have H' := Aside0.mk H
      clear H
      go_wp2
      go_meet
      case rel => exact ⟨_, (decide (a1 > 31)), (by first | rfl | (simp; done) | (simp [*]; done)), H', ⟨by first | omega | exact Nat.le_refl _⟩, by repeat (first | exact Drawn0.refl _ | apply Drawn0.step)⟩
  case rest =>
    clear HC3
    try clear c1
    try clear p2
    try clear c4
    try clear c4b0
    obtain ⟨kq, x13_2, rfl, HA, HJ2, ⟨mc2, rfl⟩⟩ := hcut
    cases kq with
    | zero => exact absurd HA.out (by simp [rushlightref01_Sign.j0])
    | succ kj2 =>
      have H := HA.out
      clear HA
      simp only [rushlightref01_Sign.j0] at H
      by_cases c5 : x13_2 = true
      · subst c5
        have H1 : (some a0) = some r := by rw [if_pos rfl] at H; exact H
        clear H
        have H := H1
        clear H1
        obtain rfl := Option.some.inj H
        go_wp2
        go_ret
        exact ⟨by first | rfl | (simp; done) | (simp [*]; done), by repeat (first | exact Drawn0.refl _ | apply Drawn0.step)⟩
      · replace c5 := Bool.eq_false_iff.mpr c5
        subst c5
        have H1 : (rushlightref01_Sign.l0 kj2 a0 a1 1 0) = some r := by rw [if_neg (show ¬ (false = true) by decide)] at H; exact H
        clear H
        have H := H1
        clear H1
        have H' := Aside0.mk H
        clear H
        go_wp2
        go_loopg [5, 6] kj2 (fun kq v5 v6 w' => ∃ (x5_2 : Int) (x6_2 : Int), v5 = .int .i64 x5_2 ∧ v6 = .int .i64 x6_2 ∧ Aside0 (rushlightref01_Sign.l0 kq a0 a1 x5_2 x6_2 = some r) ∧ Aside0 (kq ≤ kj2) ∧ Drawn0 w w')
        case atStart => exact ⟨(1), (0), (by first | rfl | (simp; done) | (simp [*]; done)), (by first | rfl | (simp; done) | (simp [*]; done)), H', ⟨Nat.le_refl _⟩, by repeat (first | exact Drawn0.refl _ | apply Drawn0.step)⟩
        case round =>
          clear H'
          try clear c1
          try clear c2
          try clear p2
          try clear c4
          try clear c4b0
          try clear c5
          try clear p2
          obtain ⟨x5_2, x6_2, rfl, rfl, HA, HK2, ⟨m2, rfl⟩⟩ := hrel
          cases gk with
          | zero => exact absurd HA.out (by simp [rushlightref01_Sign.l0])
          | succ k2 =>
            have H := HA.out
            clear HA
            simp only [rushlightref01_Sign.l0] at H
            by_cases c6 : x6_2 < a1
            · rw [if_pos c6] at H
              have c6b0 : decide (x6_2 < a1) = true := decide_eq_true c6
              clear c6
              have H' := Aside0.mk H
              clear H
              go_wp2
              go_roundg k2
              case measure => have := HJ2.out; have := HK2.out; omega
              case rel => exact ⟨(wrap64 (2 * x5_2)), (wrap64 (x6_2 + 1)), (by first | rfl | (simp; done) | (simp [*]; done)), (by first | rfl | (simp; done) | (simp [*]; done)), H', ⟨by have := HJ2.out; have := HK2.out; omega⟩, by repeat (first | exact Drawn0.refl _ | apply Drawn0.step)⟩
            · rw [if_neg c6] at H
              have c6b0 : decide (x6_2 < a1) = false := decide_eq_false c6
              clear c6
              by_cases c7 : x5_2 = 0
              · rw [if_pos c7] at H
                exact absurd H (by simp)
              · rw [if_neg c7] at H
                have c7b0 : (x5_2 == 0) = false := beq_eq_false_iff_ne.mpr c7
                have c7b1 : (x5_2 != 0) = true := bne_iff_ne.mpr c7
                by_cases c8 : (Int.tmod (wrap64 (a0)) x5_2) ≥ (wrap64 (Int.tdiv x5_2 2))
                · rw [if_pos c8] at H
                  have c8b0 : decide ((wrap64 (Int.tdiv x5_2 2)) ≤ (Int.tmod (wrap64 (a0)) x5_2)) = true := decide_eq_true c8
                  clear c8
                  replace H := Option.bind_eq_some_iff.mp H
                  obtain ⟨t111, A90, H⟩ := H
                  replace H : (some t111) = some r := H
                  have A9 := Aside0.mk A90
                  clear A90
                  obtain rfl := Option.some.inj H
                  go_wp2_with (first | (go_at_call 48; (with_reducible refine (rushlightref01_Cut.calls (wrap64 ((Int.tmod (wrap64 (a0)) x5_2) - x5_2)) t111 _ A9.out).mono ?_); rintro e w' ⟨rfl, ⟨nd, rfl⟩⟩))
                  go_ret
                  exact ⟨by first | rfl | (simp; done) | (simp [*]; done), by repeat (first | exact Drawn0.refl _ | apply Drawn0.step)⟩
                · rw [if_neg c8] at H
                  have c8b0 : decide ((wrap64 (Int.tdiv x5_2 2)) ≤ (Int.tmod (wrap64 (a0)) x5_2)) = false := decide_eq_false c8
                  clear c8
                  replace H := Option.bind_eq_some_iff.mp H
                  obtain ⟨t112, A100, H⟩ := H
                  replace H : (some t112) = some r := H
                  have A10 := Aside0.mk A100
                  clear A100
                  obtain rfl := Option.some.inj H
                  go_wp2_with (first | (go_at_call 48; (with_reducible refine (rushlightref01_Cut.calls (Int.tmod (wrap64 (a0)) x5_2) t112 _ A10.out).mono ?_); rintro e w' ⟨rfl, ⟨nd, rfl⟩⟩))
                  go_ret
                  exact ⟨by first | rfl | (simp; done) | (simp [*]; done), by repeat (first | exact Drawn0.refl _ | apply Drawn0.step)⟩

/-! ### word_Whole: function 15 -/
def word_Whole.f (a0 : Int) (a1 : Int) : Option (Int) := some ((a0 + a1) % 4294967296)
set_option maxHeartbeats 8000000 in
set_option maxRecDepth 100000 in
theorem word_Whole.calls (a0 : Int) (a1 : Int) (r : Int) (w : World) (h : word_Whole.f a0 a1 = some r) :
    Calls Try.prog 15 #[.int .u32 a0, .int .u32 a1] w fun e w' => e = .returned (.int .u32 r) ∧ Drawn0 w w' := by
  have H : (some ((a0 + a1) % 4294967296)) = some r := h
  clear h
  obtain rfl := Option.some.inj H
  go_enter Try.func15, Try.ntmps15
  go_wp2
  go_ret
  exact ⟨by first | rfl | (simp; done) | (simp [*]; done), by repeat (first | exact Drawn0.refl _ | apply Drawn0.step)⟩

/-! ### rushlightlaw01_WordSigns: function 3 -/
def rushlightlaw01_WordSigns.f (k : Nat) (a0 : Int) (a1 : Int) : Option (Bool) := (word_Parts.f a0).bind fun bt113 => ((rushlightlaw01_awake.f).bind fun t115 => (if t115 = true then ((word_Sign.f a0 a1).bind fun t116 => ((rushlightref01_Sign.f k a0 a1).bind fun t117 => (if t116 = t117 then (if (Int.tmod bt113.1 4096) = 0 then ((rushlightref01_Sign.f k a0 12).bind fun t118 => (if bt113.2 = t118 then ((word_Whole.f bt113.1 bt113.2).bind fun t119 => (some (t119 == a0))) else (some false))) else (some false)) else (some false)))) else (some false)))
theorem rushlightlaw01_WordSigns.mono : ∀ a0 a1 k, LeO (rushlightlaw01_WordSigns.f k a0 a1) (rushlightlaw01_WordSigns.f (k + 1) a0 a1) := by
  intro a0 a1 k
  unfold rushlightlaw01_WordSigns.f
  repeat' first
      | (with_reducible exact rushlightref01_Sign.mono _ _ _)
      | (with_reducible exact LeO.refl _)
      | (with_reducible exact LeO.none _)
      | (with_reducible refine LeO.ite ?_ ?_)
      | (with_reducible refine LeO.bind ?_ (fun _ => ?_))
      | exact rushlightref01_Sign.mono _ _ _
      | exact LeO.none _
      | refine LeO.ite ?_ ?_
      | refine LeO.bind ?_ (fun _ => ?_)
set_option maxHeartbeats 8000000 in
set_option maxRecDepth 100000 in
theorem rushlightlaw01_WordSigns.calls (k : Nat) (a0 : Int) (a1 : Int) (r : Bool) (w : World) (h : rushlightlaw01_WordSigns.f k a0 a1 = some r) :
    Calls Try.prog 3 #[.int .u32 a0, .int .i64 a1] w fun e w' => e = .returned (.bool r) ∧ Drawn0 w w' := by
  have H : ((word_Parts.f a0).bind fun bt113 => ((rushlightlaw01_awake.f).bind fun t115 => (if t115 = true then ((word_Sign.f a0 a1).bind fun t116 => ((rushlightref01_Sign.f k a0 a1).bind fun t117 => (if t116 = t117 then (if (Int.tmod bt113.1 4096) = 0 then ((rushlightref01_Sign.f k a0 12).bind fun t118 => (if bt113.2 = t118 then ((word_Whole.f bt113.1 bt113.2).bind fun t119 => (some (t119 == a0))) else (some false))) else (some false)) else (some false)))) else (some false)))) = some r := h
  clear h
  replace H := Option.bind_eq_some_iff.mp H
  obtain ⟨⟨t113, t114⟩, A30, H⟩ := H
  replace H : ((rushlightlaw01_awake.f).bind fun t115 => (if t115 = true then ((word_Sign.f a0 a1).bind fun t116 => ((rushlightref01_Sign.f k a0 a1).bind fun t117 => (if t116 = t117 then (if (Int.tmod t113 4096) = 0 then ((rushlightref01_Sign.f k a0 12).bind fun t118 => (if t114 = t118 then ((word_Whole.f t113 t114).bind fun t119 => (some (t119 == a0))) else (some false))) else (some false)) else (some false)))) else (some false))) = some r := H
  have A3 := Aside0.mk A30
  clear A30
  replace H := Option.bind_eq_some_iff.mp H
  obtain ⟨t115, A40, H⟩ := H
  replace H : (if t115 = true then ((word_Sign.f a0 a1).bind fun t116 => ((rushlightref01_Sign.f k a0 a1).bind fun t117 => (if t116 = t117 then (if (Int.tmod t113 4096) = 0 then ((rushlightref01_Sign.f k a0 12).bind fun t118 => (if t114 = t118 then ((word_Whole.f t113 t114).bind fun t119 => (some (t119 == a0))) else (some false))) else (some false)) else (some false)))) else (some false)) = some r := H
  have A4 := Aside0.mk A40
  clear A40
  by_cases c5 : t115 = true
  · subst c5
    have H1 : ((word_Sign.f a0 a1).bind fun t116 => ((rushlightref01_Sign.f k a0 a1).bind fun t117 => (if t116 = t117 then (if (Int.tmod t113 4096) = 0 then ((rushlightref01_Sign.f k a0 12).bind fun t118 => (if t114 = t118 then ((word_Whole.f t113 t114).bind fun t119 => (some (t119 == a0))) else (some false))) else (some false)) else (some false)))) = some r := by rw [if_pos rfl] at H; exact H
    clear H
    have H := H1
    clear H1
    replace H := Option.bind_eq_some_iff.mp H
    obtain ⟨t116, A60, H⟩ := H
    replace H : ((rushlightref01_Sign.f k a0 a1).bind fun t117 => (if t116 = t117 then (if (Int.tmod t113 4096) = 0 then ((rushlightref01_Sign.f k a0 12).bind fun t118 => (if t114 = t118 then ((word_Whole.f t113 t114).bind fun t119 => (some (t119 == a0))) else (some false))) else (some false)) else (some false))) = some r := H
    have A6 := Aside0.mk A60
    clear A60
    replace H := Option.bind_eq_some_iff.mp H
    obtain ⟨t117, A70, H⟩ := H
    replace H : (if t116 = t117 then (if (Int.tmod t113 4096) = 0 then ((rushlightref01_Sign.f k a0 12).bind fun t118 => (if t114 = t118 then ((word_Whole.f t113 t114).bind fun t119 => (some (t119 == a0))) else (some false))) else (some false)) else (some false)) = some r := H
    have A7 := Aside0.mk A70
    clear A70
    by_cases c8 : t116 = t117
    · rw [if_pos c8] at H
      have c8b0 : (t116 == t117) = true := beq_iff_eq.mpr c8
      have c8b1 : (t116 != t117) = false := bne_eq_false_iff_eq.mpr c8
      clear c8
      by_cases c9 : (Int.tmod t113 4096) = 0
      · rw [if_pos c9] at H
        have c9b0 : ((Int.tmod t113 4096) == 0) = true := beq_iff_eq.mpr c9
        have c9b1 : ((Int.tmod t113 4096) != 0) = false := bne_eq_false_iff_eq.mpr c9
        clear c9
        replace H := Option.bind_eq_some_iff.mp H
        obtain ⟨t118, A100, H⟩ := H
        replace H : (if t114 = t118 then ((word_Whole.f t113 t114).bind fun t119 => (some (t119 == a0))) else (some false)) = some r := H
        have A10 := Aside0.mk A100
        clear A100
        by_cases c11 : t114 = t118
        · rw [if_pos c11] at H
          have c11b0 : (t114 == t118) = true := beq_iff_eq.mpr c11
          have c11b1 : (t114 != t118) = false := bne_eq_false_iff_eq.mpr c11
          clear c11
          replace H := Option.bind_eq_some_iff.mp H
          obtain ⟨t119, A120, H⟩ := H
          replace H : (some (t119 == a0)) = some r := H
          have A12 := Aside0.mk A120
          clear A120
          obtain rfl := Option.some.inj H
          go_enter Try.func3, Try.ntmps3
          go_wp2_with (first | (go_at_call 11; (with_reducible refine (word_Parts.calls a0 t113 t114 _ A3.out).mono ?_); rintro e w' ⟨rfl, ⟨nd, rfl⟩⟩) | (go_at_call 12; (with_reducible refine (rushlightlaw01_awake.calls  true _ A4.out).mono ?_); rintro e w' ⟨rfl, ⟨nd, rfl⟩⟩) | (go_at_call 13; (with_reducible refine (word_Sign.calls a0 a1 t116 _ A6.out).mono ?_); rintro e w' ⟨rfl, ⟨nd, rfl⟩⟩) | (go_at_call 14; (with_reducible refine (rushlightref01_Sign.calls k a0 a1 t117 _ A7.out).mono ?_); rintro e w' ⟨rfl, ⟨nd, rfl⟩⟩) | (go_at_call 14; (with_reducible refine (rushlightref01_Sign.calls k a0 12 t118 _ A10.out).mono ?_); rintro e w' ⟨rfl, ⟨nd, rfl⟩⟩) | (go_at_call 15; (with_reducible refine (word_Whole.calls t113 t114 t119 _ A12.out).mono ?_); rintro e w' ⟨rfl, ⟨nd, rfl⟩⟩))
          go_ret
          exact ⟨by first | rfl | (simp; done) | (simp [*]; done), by repeat (first | exact Drawn0.refl _ | apply Drawn0.step)⟩
        · rw [if_neg c11] at H
          have c11b0 : (t114 == t118) = false := beq_eq_false_iff_ne.mpr c11
          have c11b1 : (t114 != t118) = true := bne_iff_ne.mpr c11
          obtain rfl := Option.some.inj H
          go_enter Try.func3, Try.ntmps3
          go_wp2_with (first | (go_at_call 11; (with_reducible refine (word_Parts.calls a0 t113 t114 _ A3.out).mono ?_); rintro e w' ⟨rfl, ⟨nd, rfl⟩⟩) | (go_at_call 12; (with_reducible refine (rushlightlaw01_awake.calls  true _ A4.out).mono ?_); rintro e w' ⟨rfl, ⟨nd, rfl⟩⟩) | (go_at_call 13; (with_reducible refine (word_Sign.calls a0 a1 t116 _ A6.out).mono ?_); rintro e w' ⟨rfl, ⟨nd, rfl⟩⟩) | (go_at_call 14; (with_reducible refine (rushlightref01_Sign.calls k a0 a1 t117 _ A7.out).mono ?_); rintro e w' ⟨rfl, ⟨nd, rfl⟩⟩) | (go_at_call 14; (with_reducible refine (rushlightref01_Sign.calls k a0 12 t118 _ A10.out).mono ?_); rintro e w' ⟨rfl, ⟨nd, rfl⟩⟩))
          go_ret
          exact ⟨by first | rfl | (simp; done) | (simp [*]; done), by repeat (first | exact Drawn0.refl _ | apply Drawn0.step)⟩
      · rw [if_neg c9] at H
        have c9b0 : ((Int.tmod t113 4096) == 0) = false := beq_eq_false_iff_ne.mpr c9
        have c9b1 : ((Int.tmod t113 4096) != 0) = true := bne_iff_ne.mpr c9
        obtain rfl := Option.some.inj H
        go_enter Try.func3, Try.ntmps3
        go_wp2_with (first | (go_at_call 11; (with_reducible refine (word_Parts.calls a0 t113 t114 _ A3.out).mono ?_); rintro e w' ⟨rfl, ⟨nd, rfl⟩⟩) | (go_at_call 12; (with_reducible refine (rushlightlaw01_awake.calls  true _ A4.out).mono ?_); rintro e w' ⟨rfl, ⟨nd, rfl⟩⟩) | (go_at_call 13; (with_reducible refine (word_Sign.calls a0 a1 t116 _ A6.out).mono ?_); rintro e w' ⟨rfl, ⟨nd, rfl⟩⟩) | (go_at_call 14; (with_reducible refine (rushlightref01_Sign.calls k a0 a1 t117 _ A7.out).mono ?_); rintro e w' ⟨rfl, ⟨nd, rfl⟩⟩))
        go_ret
        exact ⟨by first | rfl | (simp; done) | (simp [*]; done), by repeat (first | exact Drawn0.refl _ | apply Drawn0.step)⟩
    · rw [if_neg c8] at H
      have c8b0 : (t116 == t117) = false := beq_eq_false_iff_ne.mpr c8
      have c8b1 : (t116 != t117) = true := bne_iff_ne.mpr c8
      obtain rfl := Option.some.inj H
      go_enter Try.func3, Try.ntmps3
      go_wp2_with (first | (go_at_call 11; (with_reducible refine (word_Parts.calls a0 t113 t114 _ A3.out).mono ?_); rintro e w' ⟨rfl, ⟨nd, rfl⟩⟩) | (go_at_call 12; (with_reducible refine (rushlightlaw01_awake.calls  true _ A4.out).mono ?_); rintro e w' ⟨rfl, ⟨nd, rfl⟩⟩) | (go_at_call 13; (with_reducible refine (word_Sign.calls a0 a1 t116 _ A6.out).mono ?_); rintro e w' ⟨rfl, ⟨nd, rfl⟩⟩) | (go_at_call 14; (with_reducible refine (rushlightref01_Sign.calls k a0 a1 t117 _ A7.out).mono ?_); rintro e w' ⟨rfl, ⟨nd, rfl⟩⟩))
      go_ret
      exact ⟨by first | rfl | (simp; done) | (simp [*]; done), by repeat (first | exact Drawn0.refl _ | apply Drawn0.step)⟩
  · replace c5 := Bool.eq_false_iff.mpr c5
    subst c5
    have H1 : (some false) = some r := by rw [if_neg (show ¬ (false = true) by decide)] at H; exact H
    clear H
    have H := H1
    clear H1
    obtain rfl := Option.some.inj H
    go_enter Try.func3, Try.ntmps3
    go_wp2_with (first | (go_at_call 11; (with_reducible refine (word_Parts.calls a0 t113 t114 _ A3.out).mono ?_); rintro e w' ⟨rfl, ⟨nd, rfl⟩⟩) | (go_at_call 12; (with_reducible refine (rushlightlaw01_awake.calls  false _ A4.out).mono ?_); rintro e w' ⟨rfl, ⟨nd, rfl⟩⟩))
    go_ret
    exact ⟨by first | rfl | (simp; done) | (simp [*]; done), by repeat (first | exact Drawn0.refl _ | apply Drawn0.step)⟩

/-- THE ONE PURE STATEMENT of rushlightlaw01_WordSigns: yours. -/
def rushlightlaw01_WordSigns.Pure : Prop := ∀ (a0 : Int) (a1 : Int), (Lit.int .u32 a0).wf = true → (Lit.int .i64 a1).wf = true → ∃ k, rushlightlaw01_WordSigns.f k a0 a1 = some true
theorem rushlightlaw01_WordSigns.walk (P : rushlightlaw01_WordSigns.Pure) (a0 : Int) (a1 : Int) (w : World) (w0 : (Lit.int .u32 a0).wf = true) (w1 : (Lit.int .i64 a1).wf = true) :
    Calls Try.prog 3 #[.int .u32 a0, .int .i64 a1] w fun e w' => e = .returned (.bool true) ∧ Below w.heap.size w w' := by
  obtain ⟨k, h⟩ := P a0 a1 w0 w1
  refine (rushlightlaw01_WordSigns.calls k a0 a1 true w h).mono ?_
  rintro e w' ⟨rfl, hd⟩
  exact ⟨rfl, hd.below⟩

/-! ### word_Left: function 16 -/
def word_Left.f (a0 : Int) (a1 : Int) : Option (Int) := if 0 ≤ (Go.bits .and .u32 a1 31) then (some (shl .u32 a0 (Go.bits .and .u32 a1 31))) else (none)
set_option maxHeartbeats 8000000 in
set_option maxRecDepth 100000 in
theorem word_Left.calls (a0 : Int) (a1 : Int) (r : Int) (w : World) (h : word_Left.f a0 a1 = some r) :
    Calls Try.prog 16 #[.int .u32 a0, .int .u32 a1] w fun e w' => e = .returned (.int .u32 r) ∧ Drawn0 w w' := by
  have H : (if 0 ≤ (Go.bits .and .u32 a1 31) then (some (shl .u32 a0 (Go.bits .and .u32 a1 31))) else (none)) = some r := h
  clear h
  by_cases c3 : 0 ≤ (Go.bits .and .u32 a1 31)
  · rw [if_pos c3] at H
    have c3b0 := eq_true c3
    have c3b1 : decide (0 ≤ (Go.bits .and .u32 a1 31)) = true := decide_eq_true c3
    clear c3
    obtain ⟨ji4, hji4⟩ : ∃ j_ : Int, (shl .u32 a0 (Go.bits .and .u32 a1 31)) = j_ := ⟨_, rfl⟩
    replace H : (some ji4) = some r := by first | (rw [hji4] at H; exact H) | (simp only [hji4] at H ⊢; exact H)
    have hji4_ : (IntKind.u32.wrap (a0 * 2 ^ min (Go.bits .and .u32 a1 31).toNat 32)) = ji4 := hji4
    have hji4z : (Go.bits .and .u32 a1 31) ≤ 32 → (IntKind.u32.wrap (a0 * 2 ^ (Go.bits .and .u32 a1 31).toNat)) = ji4 := shl_small hji4
    obtain rfl := Option.some.inj H
    go_enter Try.func16, Try.ntmps16
    go_wp2
    go_ret
    exact ⟨by first | rfl | (simp; done) | (simp only [← hji4] <;> (first | rfl | simp)) | (simp [*]; done), by repeat (first | exact Drawn0.refl _ | apply Drawn0.step)⟩
  · rw [if_neg c3] at H
    exact absurd H (by simp)

/-! ### rushlightref01_power: function 49 -/
def rushlightref01_power.l0 : Nat → Int → Int → Int → Option (Int)
  | 0, _, _, _ => none
  | k + 1, x0, x3, x4 => if x4 < (wrap64 (Int.tmod x0 32)) then (rushlightref01_power.l0 k x0 (wrap64 (2 * x3)) (wrap64 (x4 + 1))) else (some x3)
def rushlightref01_power.f (k : Nat) (a0 : Int) : Option (Int) := rushlightref01_power.l0 k a0 1 0
theorem rushlightref01_power.mono_l : ∀ k, (∀ y0 y1 y2, LeO (rushlightref01_power.l0 k y0 y1 y2) (rushlightref01_power.l0 (k + 1) y0 y1 y2))
  | 0 => fun _ _ _ r h => by simp [rushlightref01_power.l0] at h
  | k + 1 => by
    have ih0 := rushlightref01_power.mono_l k
    · intro y0 y1 y2
      unfold rushlightref01_power.l0
      repeat' first
      | (with_reducible exact ih0 _ _ _)
      | (with_reducible exact LeO.refl _)
      | (with_reducible exact LeO.none _)
      | (with_reducible refine LeO.ite ?_ ?_)
      | (with_reducible refine LeO.bind ?_ (fun _ => ?_))
      | exact ih0 _ _ _
      | exact LeO.none _
      | refine LeO.ite ?_ ?_
      | refine LeO.bind ?_ (fun _ => ?_)
theorem rushlightref01_power.mono : ∀ a0 k, LeO (rushlightref01_power.f k a0) (rushlightref01_power.f (k + 1) a0) := by
  intro a0 k
  have ih0 := rushlightref01_power.mono_l k
  unfold rushlightref01_power.f
  repeat' first
      | (with_reducible exact ih0 _ _ _)
      | (with_reducible exact LeO.refl _)
      | (with_reducible exact LeO.none _)
      | (with_reducible refine LeO.ite ?_ ?_)
      | (with_reducible refine LeO.bind ?_ (fun _ => ?_))
      | exact ih0 _ _ _
      | exact LeO.none _
      | refine LeO.ite ?_ ?_
      | refine LeO.bind ?_ (fun _ => ?_)
set_option maxHeartbeats 8000000 in
set_option maxRecDepth 100000 in
theorem rushlightref01_power.calls (k : Nat) (a0 : Int) (r : Int) (w : World) (h : rushlightref01_power.f k a0 = some r) :
    Calls Try.prog 49 #[.int .u32 a0] w fun e w' => e = .returned (.int .i64 r) ∧ Drawn0 w w' := by
  have H : (rushlightref01_power.l0 k a0 1 0) = some r := h
  clear h
  have H' := Aside0.mk H
  clear H
  go_enter Try.func49, Try.ntmps49
  go_wp2
  go_loopg [3, 4] k (fun kq v3 v4 w' => ∃ (x3_1 : Int) (x4_1 : Int), v3 = .int .i64 x3_1 ∧ v4 = .int .i64 x4_1 ∧ Aside0 (rushlightref01_power.l0 kq a0 x3_1 x4_1 = some r) ∧ Aside0 (kq ≤ k) ∧ Drawn0 w w')
  case atStart => exact ⟨(1), (0), (by first | rfl | (simp; done) | (simp [*]; done)), (by first | rfl | (simp; done) | (simp [*]; done)), H', ⟨Nat.le_refl _⟩, by repeat (first | exact Drawn0.refl _ | apply Drawn0.step)⟩
  case round =>
    clear H'
    obtain ⟨x3_1, x4_1, rfl, rfl, HA, HK1, ⟨m1, rfl⟩⟩ := hrel
    cases gk with
    | zero => exact absurd HA.out (by simp [rushlightref01_power.l0])
    | succ k1 =>
      have H := HA.out
      clear HA
      simp only [rushlightref01_power.l0] at H
      by_cases c2 : x4_1 < (wrap64 (Int.tmod a0 32))
      · rw [if_pos c2] at H
        have c2b0 : decide (x4_1 < (wrap64 (Int.tmod a0 32))) = true := decide_eq_true c2
        clear c2
        have H' := Aside0.mk H
        clear H
        go_wp2
        go_roundg k1
        case measure => have := HK1.out; omega
        case rel => exact ⟨(wrap64 (2 * x3_1)), (wrap64 (x4_1 + 1)), (by first | rfl | (simp; done) | (simp [*]; done)), (by first | rfl | (simp; done) | (simp [*]; done)), H', ⟨by have := HK1.out; omega⟩, by repeat (first | exact Drawn0.refl _ | apply Drawn0.step)⟩
      · rw [if_neg c2] at H
        have c2b0 : decide (x4_1 < (wrap64 (Int.tmod a0 32))) = false := decide_eq_false c2
        clear c2
        obtain rfl := Option.some.inj H
        go_wp2
        go_ret
        exact ⟨by first | rfl | (simp; done) | (simp [*]; done), by repeat (first | exact Drawn0.refl _ | apply Drawn0.step)⟩

/-! ### rushlightref01_Left: function 17 -/
def rushlightref01_Left.f (k : Nat) (a0 : Int) (a1 : Int) : Option (Int) := (rushlightref01_power.f k a1).bind fun t120 => (if t120 = 0 then (none) else (if (wrap64 (Int.tdiv (4294967296 : Int) t120)) = 0 then (none) else ((rushlightref01_Cut.f (wrap64 ((Int.tmod (wrap64 (a0)) (wrap64 (Int.tdiv (4294967296 : Int) t120))) * t120))).bind fun t121 => (some t121))))
theorem rushlightref01_Left.mono : ∀ a0 a1 k, LeO (rushlightref01_Left.f k a0 a1) (rushlightref01_Left.f (k + 1) a0 a1) := by
  intro a0 a1 k
  unfold rushlightref01_Left.f
  repeat' first
      | (with_reducible exact rushlightref01_power.mono _ _)
      | (with_reducible exact LeO.refl _)
      | (with_reducible exact LeO.none _)
      | (with_reducible refine LeO.ite ?_ ?_)
      | (with_reducible refine LeO.bind ?_ (fun _ => ?_))
      | exact rushlightref01_power.mono _ _
      | exact LeO.none _
      | refine LeO.ite ?_ ?_
      | refine LeO.bind ?_ (fun _ => ?_)
set_option maxHeartbeats 8000000 in
set_option maxRecDepth 100000 in
theorem rushlightref01_Left.calls (k : Nat) (a0 : Int) (a1 : Int) (r : Int) (w : World) (h : rushlightref01_Left.f k a0 a1 = some r) :
    Calls Try.prog 17 #[.int .u32 a0, .int .u32 a1] w fun e w' => e = .returned (.int .u32 r) ∧ Drawn0 w w' := by
  have H : ((rushlightref01_power.f k a1).bind fun t120 => (if t120 = 0 then (none) else (if (wrap64 (Int.tdiv (4294967296 : Int) t120)) = 0 then (none) else ((rushlightref01_Cut.f (wrap64 ((Int.tmod (wrap64 (a0)) (wrap64 (Int.tdiv (4294967296 : Int) t120))) * t120))).bind fun t121 => (some t121))))) = some r := h
  clear h
  replace H := Option.bind_eq_some_iff.mp H
  obtain ⟨t120, A30, H⟩ := H
  replace H : (if t120 = 0 then (none) else (if (wrap64 (Int.tdiv (4294967296 : Int) t120)) = 0 then (none) else ((rushlightref01_Cut.f (wrap64 ((Int.tmod (wrap64 (a0)) (wrap64 (Int.tdiv (4294967296 : Int) t120))) * t120))).bind fun t121 => (some t121)))) = some r := H
  have A3 := Aside0.mk A30
  clear A30
  by_cases c4 : t120 = 0
  · rw [if_pos c4] at H
    exact absurd H (by simp)
  · rw [if_neg c4] at H
    have c4b0 : (t120 == 0) = false := beq_eq_false_iff_ne.mpr c4
    have c4b1 : (t120 != 0) = true := bne_iff_ne.mpr c4
    by_cases c5 : (wrap64 (Int.tdiv (4294967296 : Int) t120)) = 0
    · rw [if_pos c5] at H
      exact absurd H (by simp)
    · rw [if_neg c5] at H
      have c5b0 : ((wrap64 (Int.tdiv (4294967296 : Int) t120)) == 0) = false := beq_eq_false_iff_ne.mpr c5
      have c5b1 : ((wrap64 (Int.tdiv (4294967296 : Int) t120)) != 0) = true := bne_iff_ne.mpr c5
      replace H := Option.bind_eq_some_iff.mp H
      obtain ⟨t121, A60, H⟩ := H
      replace H : (some t121) = some r := H
      have A6 := Aside0.mk A60
      clear A60
      obtain rfl := Option.some.inj H
      go_enter Try.func17, Try.ntmps17
      go_wp2_with (first | (go_at_call 49; (with_reducible refine (rushlightref01_power.calls k a1 t120 _ A3.out).mono ?_); rintro e w' ⟨rfl, ⟨nd, rfl⟩⟩; (try first | exact ⟨rfl, _, World.drewN_drewN _ _ _⟩ | exact ⟨rfl, _, Eq.trans (World.drewN_drewN _ _ _) (congrArg (World.drewN _) (Nat.add_assoc _ _ _))⟩)) | (go_at_call 48; (with_reducible refine (rushlightref01_Cut.calls (wrap64 ((Int.tmod (wrap64 (a0)) (wrap64 (Int.tdiv (4294967296 : Int) t120))) * t120)) t121 _ A6.out).mono ?_); rintro e w' ⟨rfl, ⟨nd, rfl⟩⟩; (try first | exact ⟨rfl, _, World.drewN_drewN _ _ _⟩ | exact ⟨rfl, _, Eq.trans (World.drewN_drewN _ _ _) (congrArg (World.drewN _) (Nat.add_assoc _ _ _))⟩)))
      repeat (go_quiet (first | (go_at_call 49; (with_reducible refine (rushlightref01_power.calls k a1 t120 _ A3.out).mono ?_); rintro e w' ⟨rfl, ⟨nd, rfl⟩⟩; (try first | exact ⟨rfl, _, World.drewN_drewN _ _ _⟩ | exact ⟨rfl, _, Eq.trans (World.drewN_drewN _ _ _) (congrArg (World.drewN _) (Nat.add_assoc _ _ _))⟩)) | (go_at_call 48; (with_reducible refine (rushlightref01_Cut.calls (wrap64 ((Int.tmod (wrap64 (a0)) (wrap64 (Int.tdiv (4294967296 : Int) t120))) * t120)) t121 _ A6.out).mono ?_); rintro e w' ⟨rfl, ⟨nd, rfl⟩⟩; (try first | exact ⟨rfl, _, World.drewN_drewN _ _ _⟩ | exact ⟨rfl, _, Eq.trans (World.drewN_drewN _ _ _) (congrArg (World.drewN _) (Nat.add_assoc _ _ _))⟩))); try go_wp2_with (first | (go_at_call 49; (with_reducible refine (rushlightref01_power.calls k a1 t120 _ A3.out).mono ?_); rintro e w' ⟨rfl, ⟨nd, rfl⟩⟩; (try first | exact ⟨rfl, _, World.drewN_drewN _ _ _⟩ | exact ⟨rfl, _, Eq.trans (World.drewN_drewN _ _ _) (congrArg (World.drewN _) (Nat.add_assoc _ _ _))⟩)) | (go_at_call 48; (with_reducible refine (rushlightref01_Cut.calls (wrap64 ((Int.tmod (wrap64 (a0)) (wrap64 (Int.tdiv (4294967296 : Int) t120))) * t120)) t121 _ A6.out).mono ?_); rintro e w' ⟨rfl, ⟨nd, rfl⟩⟩; (try first | exact ⟨rfl, _, World.drewN_drewN _ _ _⟩ | exact ⟨rfl, _, Eq.trans (World.drewN_drewN _ _ _) (congrArg (World.drewN _) (Nat.add_assoc _ _ _))⟩))))
      go_ret
      exact ⟨by first | rfl | (simp; done) | (simp [*]; done), by repeat (first | exact Drawn0.refl _ | apply Drawn0.step)⟩

/-! ### word_Right: function 18 -/
def word_Right.f (a0 : Int) (a1 : Int) : Option (Int) := if 0 ≤ (Go.bits .and .u32 a1 31) then (some (shr .u32 a0 (Go.bits .and .u32 a1 31))) else (none)
set_option maxHeartbeats 8000000 in
set_option maxRecDepth 100000 in
theorem word_Right.calls (a0 : Int) (a1 : Int) (r : Int) (w : World) (h : word_Right.f a0 a1 = some r) :
    Calls Try.prog 18 #[.int .u32 a0, .int .u32 a1] w fun e w' => e = .returned (.int .u32 r) ∧ Drawn0 w w' := by
  have H : (if 0 ≤ (Go.bits .and .u32 a1 31) then (some (shr .u32 a0 (Go.bits .and .u32 a1 31))) else (none)) = some r := h
  clear h
  by_cases c3 : 0 ≤ (Go.bits .and .u32 a1 31)
  · rw [if_pos c3] at H
    have c3b0 := eq_true c3
    have c3b1 : decide (0 ≤ (Go.bits .and .u32 a1 31)) = true := decide_eq_true c3
    clear c3
    obtain ⟨ji4, hji4⟩ : ∃ j_ : Int, (shr .u32 a0 (Go.bits .and .u32 a1 31)) = j_ := ⟨_, rfl⟩
    replace H : (some ji4) = some r := by first | (rw [hji4] at H; exact H) | (simp only [hji4] at H ⊢; exact H)
    have hji4_ : (a0 / 2 ^ min (Go.bits .and .u32 a1 31).toNat 32) = ji4 := hji4
    have hji4z : (Go.bits .and .u32 a1 31) ≤ 32 → (a0 / 2 ^ (Go.bits .and .u32 a1 31).toNat) = ji4 := shr_small hji4
    obtain rfl := Option.some.inj H
    go_enter Try.func18, Try.ntmps18
    go_wp2
    go_ret
    exact ⟨by first | rfl | (simp; done) | (simp only [← hji4] <;> (first | rfl | simp)) | (simp [*]; done), by repeat (first | exact Drawn0.refl _ | apply Drawn0.step)⟩
  · rw [if_neg c3] at H
    exact absurd H (by simp)

/-! ### rushlightref01_Right: function 19 -/
def rushlightref01_Right.f (k : Nat) (a0 : Int) (a1 : Int) : Option (Int) := (rushlightref01_power.f k a1).bind fun t122 => (if t122 = 0 then (none) else (some ((wrap64 (Int.tdiv (wrap64 (a0)) t122)) % 4294967296)))
theorem rushlightref01_Right.mono : ∀ a0 a1 k, LeO (rushlightref01_Right.f k a0 a1) (rushlightref01_Right.f (k + 1) a0 a1) := by
  intro a0 a1 k
  unfold rushlightref01_Right.f
  repeat' first
      | (with_reducible exact rushlightref01_power.mono _ _)
      | (with_reducible exact LeO.refl _)
      | (with_reducible exact LeO.none _)
      | (with_reducible refine LeO.ite ?_ ?_)
      | (with_reducible refine LeO.bind ?_ (fun _ => ?_))
      | exact rushlightref01_power.mono _ _
      | exact LeO.none _
      | refine LeO.ite ?_ ?_
      | refine LeO.bind ?_ (fun _ => ?_)
set_option maxHeartbeats 8000000 in
set_option maxRecDepth 100000 in
theorem rushlightref01_Right.calls (k : Nat) (a0 : Int) (a1 : Int) (r : Int) (w : World) (h : rushlightref01_Right.f k a0 a1 = some r) :
    Calls Try.prog 19 #[.int .u32 a0, .int .u32 a1] w fun e w' => e = .returned (.int .u32 r) ∧ Drawn0 w w' := by
  have H : ((rushlightref01_power.f k a1).bind fun t122 => (if t122 = 0 then (none) else (some ((wrap64 (Int.tdiv (wrap64 (a0)) t122)) % 4294967296)))) = some r := h
  clear h
  replace H := Option.bind_eq_some_iff.mp H
  obtain ⟨t122, A30, H⟩ := H
  replace H : (if t122 = 0 then (none) else (some ((wrap64 (Int.tdiv (wrap64 (a0)) t122)) % 4294967296))) = some r := H
  have A3 := Aside0.mk A30
  clear A30
  by_cases c4 : t122 = 0
  · rw [if_pos c4] at H
    exact absurd H (by simp)
  · rw [if_neg c4] at H
    have c4b0 : (t122 == 0) = false := beq_eq_false_iff_ne.mpr c4
    have c4b1 : (t122 != 0) = true := bne_iff_ne.mpr c4
    obtain rfl := Option.some.inj H
    go_enter Try.func19, Try.ntmps19
    go_wp2_with (first | (go_at_call 49; (with_reducible refine (rushlightref01_power.calls k a1 t122 _ A3.out).mono ?_); rintro e w' ⟨rfl, ⟨nd, rfl⟩⟩))
    go_ret
    exact ⟨by first | rfl | (simp; done) | (simp [*]; done), by repeat (first | exact Drawn0.refl _ | apply Drawn0.step)⟩

/-! ### rushlightref01_Signed: function 34 -/
def rushlightref01_Signed.f (a0 : Int) : Option (Int) := if a0 ≥ 2147483648 then (some (wrap64 ((wrap64 (a0)) - 4294967296))) else (some (wrap64 (a0)))
set_option maxHeartbeats 8000000 in
set_option maxRecDepth 100000 in
theorem rushlightref01_Signed.calls (a0 : Int) (r : Int) (w : World) (h : rushlightref01_Signed.f a0 = some r) :
    Calls Try.prog 34 #[.int .u32 a0] w fun e w' => e = .returned (.int .i64 r) ∧ Drawn0 w w' := by
  have H : (if a0 ≥ 2147483648 then (some (wrap64 ((wrap64 (a0)) - 4294967296))) else (some (wrap64 (a0)))) = some r := h
  clear h
  by_cases c2 : a0 ≥ 2147483648
  · rw [if_pos c2] at H
    have c2b0 : decide (2147483648 ≤ a0) = true := decide_eq_true c2
    clear c2
    obtain rfl := Option.some.inj H
    go_enter Try.func34, Try.ntmps34
    go_wp2
    go_ret
    exact ⟨by first | rfl | (simp; done) | (simp [*]; done), by repeat (first | exact Drawn0.refl _ | apply Drawn0.step)⟩
  · rw [if_neg c2] at H
    have c2b0 : decide (2147483648 ≤ a0) = false := decide_eq_false c2
    clear c2
    obtain rfl := Option.some.inj H
    go_enter Try.func34, Try.ntmps34
    go_wp2
    go_ret
    exact ⟨by first | rfl | (simp; done) | (simp [*]; done), by repeat (first | exact Drawn0.refl _ | apply Drawn0.step)⟩

end Go.Proofs.Ytoinjjlefckhhaa.All
