/- Plain facts about the word functions of the program and of the reference, as the printed functions have them: what each answers, for words from 0 below 2^32; no program in sight. -/
import Derived.Test.YtoinjjlefckhhaaAll4
namespace Go.Proofs.Ytoinjjlefckhhaa.Math
open Go.RowKit Go.Proofs.Ytoinjjlefckhhaa.All Go.Proofs.YtoinjjlefckhhaaW.PrintWords Go.Proofs.YtoinjjlefckhhaaW.PrintLast Go.Proofs.YtoinjjlefckhhaaW.PrintMore

theorem u32_bd {a : Int} (h : (Lit.int .u32 a).wf = true) : 0 ≤ a ∧ a < 4294967296 := by
  simp [Lit.wf, IntKind.min, IntKind.max, IntKind.signed, IntKind.bits] at h
  omega

theorem awake_true : rushlightlaw01_awake.f = some true := by decide +kernel

/-- A word as a signed number. -/
def sg (a : Int) : Int := if a ≥ 2147483648 then a - 4294967296 else a

theorem sg_wrap {a : Int} (h0 : 0 ≤ a) (h1 : a < 4294967296) : wrap32 a = sg a := by
  unfold wrap32 sg; split <;> omega
theorem sg_bd {a : Int} (h0 : 0 ≤ a) (h1 : a < 4294967296) : -2147483648 ≤ sg a ∧ sg a < 2147483648 := by
  unfold sg; split <;> omega
theorem w64 {a : Int} (h0 : -9223372036854775808 ≤ a) (h1 : a ≤ 9223372036854775807) : wrap64 a = a := by
  unfold wrap64; omega
theorem signed_eq {a : Int} (h0 : 0 ≤ a) (h1 : a < 4294967296) : rushlightref01_Signed.f a = some (sg a) := by
  unfold rushlightref01_Signed.f sg
  split
  · rw [w64 (a := a) (by omega) (by omega), w64 (by omega) (by omega)]
  · rw [w64 (a := a) (by omega) (by omega)]
theorem cut_eq {n : Int} (h0 : -9223372036854775808 ≤ n) (h1 : n ≤ 9223372036854775807) : rushlightref01_Cut.f n = some (n % 4294967296) := by
  unfold rushlightref01_Cut.f
  by_cases hn : 0 ≤ n
  · rw [Int.tmod_eq_emod_of_nonneg hn, if_neg (by omega)]
    congr 1; omega
  · have e : Int.tmod n 4294967296 = -((-n) % 4294967296) := by
      have := Int.neg_tmod (-n) 4294967296
      rw [Int.neg_neg] at this
      rw [this, Int.tmod_eq_emod_of_nonneg (by omega)]
    rw [e]
    split
    · rw [w64 (by omega) (by omega)]; congr 1; omega
    · congr 1; omega

theorem halves (a b : Int) (a0 : 0 ≤ a) (a1 : a < 4294967296) (b0 : 0 ≤ b) (b1 : b < 4294967296) :
    rushlightref01_half.f a b = some (a * b / 4294967296, a * b % 4294967296) := by
  have ta : Int.tmod a 65536 = a % 65536 := Int.tmod_eq_emod_of_nonneg a0
  have tb : Int.tmod b 65536 = b % 65536 := Int.tmod_eq_emod_of_nonneg b0
  have da : Int.tdiv a 65536 = a / 65536 := Int.tdiv_eq_ediv_of_nonneg a0
  have db : Int.tdiv b 65536 = b / 65536 := Int.tdiv_eq_ediv_of_nonneg b0
  unfold rushlightref01_half.f
  rw [w64 (a := a) (by omega) (by omega), w64 (a := b) (by omega) (by omega), ta, tb, da, db]
  rw [w64 (a := a / 65536) (by omega) (by omega), w64 (a := b / 65536) (by omega) (by omega)]
  obtain ⟨ah, hah⟩ : ∃ x, x = a / 65536 := ⟨_, rfl⟩
  obtain ⟨al, hal⟩ : ∃ x, x = a % 65536 := ⟨_, rfl⟩
  obtain ⟨bh, hbh⟩ : ∃ x, x = b / 65536 := ⟨_, rfl⟩
  obtain ⟨bl, hbl⟩ : ∃ x, x = b % 65536 := ⟨_, rfl⟩
  rw [← hah, ← hal, ← hbh, ← hbl]
  have ea : a = 65536 * ah + al := by omega
  have eb : b = 65536 * bh + bl := by omega
  have mul_bd : ∀ x y : Int, 0 ≤ x → x ≤ 65535 → 0 ≤ y → y ≤ 65535 → 0 ≤ x * y ∧ x * y ≤ 4294836225 := by
    intro x y x0 x1 y0 y1
    refine ⟨Int.mul_nonneg x0 y0, ?_⟩
    have h1 : x * y ≤ 65535 * y := Int.mul_le_mul_of_nonneg_right x1 y0
    omega
  obtain ⟨p0, p1⟩ := mul_bd al bl (by omega) (by omega) (by omega) (by omega)
  obtain ⟨q0, q1⟩ := mul_bd ah bl (by omega) (by omega) (by omega) (by omega)
  obtain ⟨r0, r1⟩ := mul_bd al bh (by omega) (by omega) (by omega) (by omega)
  obtain ⟨s0, s1⟩ := mul_bd ah bh (by omega) (by omega) (by omega) (by omega)
  have ep : a * b = 4294967296 * (ah * bh) + 65536 * (ah * bl) + 65536 * (al * bh) + al * bl := by
    rw [ea, eb, Int.add_mul, Int.mul_add, Int.mul_add]
    have e1 : 65536 * ah * (65536 * bh) = 4294967296 * (ah * bh) := by
      rw [Int.mul_assoc, Int.mul_left_comm ah 65536 bh]; omega
    have e2 : 65536 * ah * bl = 65536 * (ah * bl) := Int.mul_assoc _ _ _
    have e3 : al * (65536 * bh) = 65536 * (al * bh) := Int.mul_left_comm _ _ _
    rw [e1, e2, e3]; omega
  rw [ep]
  generalize al * bl = p at *
  generalize ah * bl = q at *
  generalize al * bh = r at *
  generalize ah * bh = s at *
  clear ea eb ep hah hal hbh hbl ta tb da db
  have tm : ∀ n : Int, 0 ≤ n → Int.tmod n 65536 = n % 65536 := fun n h => Int.tmod_eq_emod_of_nonneg h
  have td : ∀ n : Int, 0 ≤ n → Int.tdiv n 65536 = n / 65536 := fun n h => Int.tdiv_eq_ediv_of_nonneg h
  rw [w64 (a := p) (by omega) (by omega), w64 (a := q) (by omega) (by omega), w64 (a := r) (by omega) (by omega), w64 (a := s) (by omega) (by omega)]
  rw [td p p0, tm p p0, w64 (a := p / 65536) (by omega) (by omega)]
  rw [w64 (a := q + p / 65536) (by omega) (by omega), td (q + p / 65536) (by omega), tm (q + p / 65536) (by omega)]
  rw [w64 (a := (q + p / 65536) / 65536) (by omega) (by omega), w64 (a := s + (q + p / 65536) / 65536) (by omega) (by omega)]
  rw [w64 (a := r + (q + p / 65536) % 65536) (by omega) (by omega), td (r + (q + p / 65536) % 65536) (by omega), tm (r + (q + p / 65536) % 65536) (by omega)]
  rw [w64 (a := (r + (q + p / 65536) % 65536) / 65536) (by omega) (by omega), w64 (a := (r + (q + p / 65536) % 65536) % 65536 * 65536) (by omega) (by omega)]
  rw [w64 (by omega) (by omega), w64 (by omega) (by omega)]
  congr 2 <;> omega

theorem sub_eq {a b : Int} (a0 : 0 ≤ a) (a1 : a < 4294967296) (b0 : 0 ≤ b) (b1 : b < 4294967296) :
    rushlightref01_Sub.f a b = some ((a - b) % 4294967296) := by
  unfold rushlightref01_Sub.f
  rw [w64 (a := a) (by omega) (by omega), w64 (a := b) (by omega) (by omega), w64 (by omega) (by omega), cut_eq (by omega) (by omega)]; rfl
theorem add_eq {a b : Int} (a0 : 0 ≤ a) (a1 : a < 4294967296) (b0 : 0 ≤ b) (b1 : b < 4294967296) :
    rushlightref01_Add.f a b = some ((a + b) % 4294967296) := by
  unfold rushlightref01_Add.f
  rw [w64 (a := a) (by omega) (by omega), w64 (a := b) (by omega) (by omega), w64 (by omega) (by omega), cut_eq (by omega) (by omega)]; rfl
theorem mul_eq {a b : Int} (a0 : 0 ≤ a) (a1 : a < 4294967296) (b0 : 0 ≤ b) (b1 : b < 4294967296) :
    rushlightref01_Mul.f a b = some (a * b % 4294967296) := by
  unfold rushlightref01_Mul.f
  rw [halves a b a0 a1 b0 b1]; rfl
theorem prod_bd {a b : Int} (a0 : 0 ≤ a) (a1 : a < 4294967296) (b0 : 0 ≤ b) (b1 : b < 4294967296) : 0 ≤ a * b ∧ a * b ≤ 18446744065119617025 := by
  refine ⟨Int.mul_nonneg a0 b0, ?_⟩
  have h1 : a * b ≤ 4294967295 * b := Int.mul_le_mul_of_nonneg_right (by omega) b0
  omega
theorem highU_eq {a b : Int} (a0 : 0 ≤ a) (a1 : a < 4294967296) (b0 : 0 ≤ b) (b1 : b < 4294967296) :
    rushlightref01_HighU.f a b = some (a * b / 4294967296) := by
  unfold rushlightref01_HighU.f
  rw [halves a b a0 a1 b0 b1]; rfl
/-- a product of numbers of which one or both are less 2^32, out of the product -/
theorem sg_mul_l (a b : Int) : sg a * b = a * b - (if a ≥ 2147483648 then 4294967296 * b else 0) := by
  unfold sg; split
  · rw [Int.sub_mul]
  · omega
theorem sg_mul (a b : Int) : sg a * sg b = a * b - (if a ≥ 2147483648 then 4294967296 * b else 0) - (if b ≥ 2147483648 then 4294967296 * sg a else 0) := by
  have : sg a * sg b = sg a * b - (if b ≥ 2147483648 then 4294967296 * sg a else 0) := by
    rw [Int.mul_comm (sg a) (sg b), sg_mul_l b (sg a), Int.mul_comm b (sg a)]
  rw [this, sg_mul_l]
theorem highSU_eq {a b : Int} (a0 : 0 ≤ a) (a1 : a < 4294967296) (b0 : 0 ≤ b) (b1 : b < 4294967296) :
    rushlightref01_HighSU.f a b = some (sg a * b / 4294967296 % 4294967296) := by
  obtain ⟨p0, p1⟩ := prod_bd a0 a1 b0 b1
  unfold rushlightref01_HighSU.f
  rw [highU_eq a0 a1 b0 b1, signed_eq a0 a1, sg_mul_l]
  simp only [Option.bind_some]
  generalize a * b = p at *
  by_cases h : a ≥ 2147483648
  · rw [if_pos (show sg a < 0 by unfold sg; rw [if_pos h]; omega), sub_eq (by omega) (by omega) b0 b1, if_pos h]
    simp only [Option.bind_some]; congr 1; omega
  · rw [if_neg (show ¬ sg a < 0 by unfold sg; rw [if_neg h]; omega), if_neg h]; congr 1; omega
theorem high_eq {a b : Int} (a0 : 0 ≤ a) (a1 : a < 4294967296) (b0 : 0 ≤ b) (b1 : b < 4294967296) :
    rushlightref01_High.f a b = some (sg a * sg b / 4294967296 % 4294967296) := by
  obtain ⟨p0, p1⟩ := prod_bd a0 a1 b0 b1
  have e1 := sg_mul_l a b
  have e2 := sg_mul a b
  have sa : sg a = if a ≥ 2147483648 then a - 4294967296 else a := rfl
  unfold rushlightref01_High.f
  rw [highSU_eq a0 a1 b0 b1, signed_eq b0 b1]
  simp only [Option.bind_some]
  generalize a * b = p at *
  generalize sg a * b = q at *
  generalize sg a * sg b = r at *
  by_cases h : b ≥ 2147483648
  · rw [if_pos (show sg b < 0 by unfold sg; rw [if_pos h]; omega), sub_eq (by omega) (by omega) a0 a1]
    rw [if_pos h] at e2
    simp only [Option.bind_some]; congr 1
    split at e1 <;> split at e2 <;> split at sa <;> omega
  · rw [if_neg (show ¬ sg b < 0 by unfold sg; rw [if_neg h]; omega)]
    rw [if_neg h] at e2
    congr 1
    split at e1 <;> split at e2 <;> omega

theorem u64w (n : Int) : IntKind.u64.wrap n = n % 18446744073709551616 := by simp [IntKind.wrap, IntKind.bits, IntKind.signed]
theorem sg_abs {a : Int} (a0 : 0 ≤ a) (a1 : a < 4294967296) : wrap64 (wrap32 a) = sg a := by
  rw [sg_wrap a0 a1]; obtain ⟨h0, h1⟩ := sg_bd a0 a1; exact w64 (by omega) (by omega)
theorem sprod_bd {a b : Int} (a0 : 0 ≤ a) (a1 : a < 4294967296) (b0 : 0 ≤ b) (b1 : b < 4294967296) :
    -4611686018427387904 ≤ sg a * sg b ∧ sg a * sg b ≤ 4611686018427387904 := by
  have e2 := sg_mul a b
  have e1 := sg_mul_l a b
  obtain ⟨p0, p1⟩ := prod_bd a0 a1 b0 b1
  obtain ⟨x0, x1⟩ := sg_bd a0 a1
  obtain ⟨y0, y1⟩ := sg_bd b0 b1
  have key : ∀ x y : Int, -2147483648 ≤ x → x ≤ 2147483648 → -2147483648 ≤ y → y ≤ 2147483648 → -4611686018427387904 ≤ x * y ∧ x * y ≤ 4611686018427387904 := by
    intro x y x0 x1 y0 y1
    have n1 : 0 ≤ (2147483648 - x) * (2147483648 + y) := Int.mul_nonneg (by omega) (by omega)
    have n2 : 0 ≤ (2147483648 + x) * (2147483648 - y) := Int.mul_nonneg (by omega) (by omega)
    have n3 : 0 ≤ (2147483648 - x) * (2147483648 - y) := Int.mul_nonneg (by omega) (by omega)
    have n4 : 0 ≤ (2147483648 + x) * (2147483648 + y) := Int.mul_nonneg (by omega) (by omega)
    rw [Int.sub_mul, Int.mul_add, Int.mul_add] at n1
    rw [Int.add_mul, Int.mul_sub, Int.mul_sub] at n2
    rw [Int.sub_mul, Int.mul_sub, Int.mul_sub] at n3
    rw [Int.add_mul, Int.mul_add, Int.mul_add] at n4
    omega
  exact key _ _ x0 (by omega) y0 (by omega)
theorem suprod_bd {a b : Int} (a0 : 0 ≤ a) (a1 : a < 4294967296) (b0 : 0 ≤ b) (b1 : b < 4294967296) :
    -9223372034707292160 ≤ sg a * b ∧ sg a * b ≤ 9223372034707292160 := by
  obtain ⟨x0, x1⟩ := sg_bd a0 a1
  have n1 : 0 ≤ (2147483648 - sg a) * b := Int.mul_nonneg (by omega) (by omega)
  have n2 : 0 ≤ (2147483648 + sg a) * b := Int.mul_nonneg (by omega) (by omega)
  rw [Int.sub_mul] at n1; rw [Int.add_mul] at n2
  omega
theorem wHigh {a b : Int} (a0 : 0 ≤ a) (a1 : a < 4294967296) (b0 : 0 ≤ b) (b1 : b < 4294967296) :
    word_High.f a b = some (sg a * sg b / 4294967296 % 4294967296) := by
  obtain ⟨p0, p1⟩ := sprod_bd a0 a1 b0 b1
  unfold word_High.f shr
  rw [sg_abs a0 a1, sg_abs b0 b1, w64 (by omega) (by omega)]
  generalize sg a * sg b = p at *
  have : min (32 : Int).toNat IntKind.u64.bits = 32 := by decide
  rw [this]; congr 1
  rw [show (2 : Int) ^ 32 = 4294967296 by decide]; omega
theorem wHighU {a b : Int} (a0 : 0 ≤ a) (a1 : a < 4294967296) (b0 : 0 ≤ b) (b1 : b < 4294967296) :
    word_HighU.f a b = some (a * b / 4294967296) := by
  obtain ⟨p0, p1⟩ := prod_bd a0 a1 b0 b1
  unfold word_HighU.f
  rw [u64w, u64w, u64w, Int.emod_eq_of_lt a0 (by omega), Int.emod_eq_of_lt b0 (by omega)]
  generalize a * b = p at *
  congr 1; omega
theorem wHighSU {a b : Int} (a0 : 0 ≤ a) (a1 : a < 4294967296) (b0 : 0 ≤ b) (b1 : b < 4294967296) :
    word_HighSU.f a b = some (sg a * b / 4294967296 % 4294967296) := by
  obtain ⟨p0, p1⟩ := suprod_bd a0 a1 b0 b1
  unfold word_HighSU.f
  rw [sg_abs a0 a1, w64 (a := b) (by omega) (by omega), w64 (by omega) (by omega), u64w]
  generalize sg a * b = p at *
  congr 1; omega
theorem or_join {x y : Int} (x0 : 0 ≤ x) (x1 : x < 4294967296) (y0 : 0 ≤ y) (y1 : y < 4294967296) :
    Go.bits .or .u64 (IntKind.u64.wrap (IntKind.u64.wrap x * 4294967296)) (IntKind.u64.wrap y) = x * 4294967296 + y := by
  rw [u64w, u64w, u64w]
  have e1 : x % 18446744073709551616 * 4294967296 % 18446744073709551616 = x * 4294967296 := by omega
  have e2 : y % 18446744073709551616 = y := by omega
  rw [e1, e2]
  exact bits_join .u64 64 (by decide) (fun n h0 h1 => by rw [u64w]; omega) 32 _ _ (by omega) (by omega) (by omega) y0 (by omega) (by omega)
/-- Div, Rem of the program -/
theorem sg_zero {a : Int} (a0 : 0 ≤ a) (a1 : a < 4294967296) : sg a = 0 ↔ a = 0 := by unfold sg; split <;> omega
theorem tdiv_bd (x y : Int) : -(x.natAbs : Int) ≤ Int.tdiv x y ∧ Int.tdiv x y ≤ x.natAbs := by
  have := Int.natAbs_tdiv x y
  have h2 : (Int.tdiv x y).natAbs ≤ x.natAbs := by rw [this]; exact Nat.div_le_self _ _
  omega
theorem wDiv {a b : Int} (a0 : 0 ≤ a) (a1 : a < 4294967296) (b0 : 0 ≤ b) (b1 : b < 4294967296) (hb : b ≠ 0) :
    word_Div.f a b = some (Int.tdiv (sg a) (sg b) % 4294967296) := by
  unfold word_Div.f
  have := tdiv_bd (sg a) (sg b)
  obtain ⟨x0, x1⟩ := sg_bd a0 a1
  rw [sg_abs a0 a1, sg_abs b0 b1, if_neg hb, if_neg (fun h => hb ((sg_zero b0 b1).1 h)), w64 (by omega) (by omega)]
theorem wRem {a b : Int} (a0 : 0 ≤ a) (a1 : a < 4294967296) (b0 : 0 ≤ b) (b1 : b < 4294967296) (hb : b ≠ 0) :
    word_Rem.f a b = some (Int.tmod (sg a) (sg b) % 4294967296) := by
  unfold word_Rem.f
  rw [sg_abs a0 a1, sg_abs b0 b1, if_neg hb, if_neg (fun h => hb ((sg_zero b0 b1).1 h))]
end Go.Proofs.Ytoinjjlefckhhaa.Math
