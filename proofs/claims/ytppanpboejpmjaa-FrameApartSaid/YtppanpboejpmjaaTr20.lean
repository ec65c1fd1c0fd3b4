-- Written by this session's own program (wip/tools/myprint.py over the kit's printer), functions proved by hand among them. Not trusted: Lean checks it.
import Derived.Test.YtppanpboejpmjaaTr0
import Derived.Test.YtppanpboejpmjaaTr13
import Derived.Test.YtppanpboejpmjaaTr14
import Derived.Test.YtppanpboejpmjaaTr15
namespace Go.Proofs.Ytppanpboejpmjaa.Tr
open Go.RowKit Go.Proofs.YtppanpboejpmjaaW.PrintWords Go.Proofs.YtppanpboejpmjaaW.PrintLast Go.Proofs.YtppanpboejpmjaaW.PrintMore
attribute [local go_sem] max2_int min2_int max_two min_two max_three min_three max_four min_four   -- for this text's walks alone
set_option linter.unusedVariables false
set_option linter.unusedSimpArgs false

/-! ### rushlightlaw25_FrameApart: function 9 -/
mutual
def rushlightlaw25_FrameApart.j0 : Nat → List (S80) → Int → Bool → ByteArray → Bool → Int → Int → List (S76) → List (S45) → Option (Bool)
 | 0, _, _, _, _, _, _, _, _, _ => none
 | k + 1, x1, x2, x28, x580000, x580001, x580002, x580003, x580004, x580005 => if x28 = true then ((rushlightlaw25_awake.f k).bind fun t581 => (some t581)) else ((frame_Lay.f k x580000 x580001 x580002 x580003 x580004 x580005 x1 x2).bind fun bt582 => (if bt582.2.2.2.2 = 0 then (if bt582.1 < 0 then (rushlightlaw25_FrameApart.j1 k x2 true x580000 x580001 x580002 x580003 x580004 x580005 bt582.1 bt582.2.1 bt582.2.2.1 bt582.2.2.2.1) else (if bt582.1 > 2000 then (rushlightlaw25_FrameApart.j1 k x2 true x580000 x580001 x580002 x580003 x580004 x580005 bt582.1 bt582.2.1 bt582.2.2.1 bt582.2.2.2.1) else (rushlightlaw25_FrameApart.j1 k x2 ((bt582.2.2.2.1.length : Int) != (x580004.length : Int)) x580000 x580001 x580002 x580003 x580004 x580005 bt582.1 bt582.2.1 bt582.2.2.1 bt582.2.2.2.1))) else ((rushlightlaw25_awake.f k).bind fun t592 => (some t592))))
def rushlightlaw25_FrameApart.j1 : Nat → Int → Bool → ByteArray → Bool → Int → Int → List (S76) → List (S45) → Int → List Int → Int → List Int → Option (Bool)
 | 0, _, _, _, _, _, _, _, _, _, _, _, _ => none
 | k + 1, x2, x56, x580000, x580001, x580002, x580003, x580004, x580005, x592000, x592001, x592002, x592003 => if x56 = true then (some false) else (if 0 ≤ x592000 then (if (x592000 : Int).toNat ≤ 281474976710656 then (rushlightlaw25_FrameApart.l0 k x2 (List.replicate (x592000 : Int).toNat false) (([0] : List Int)) (([4] : List Int)) 0 x580000 x580001 x580002 x580003 x580004 x580005 x592000 x592001 x592002 x592003) else (none)) else (none))
def rushlightlaw25_FrameApart.l0 : Nat → Int → List Bool → List Int → List Int → Int → ByteArray → Bool → Int → Int → List (S76) → List (S45) → Int → List Int → Int → List Int → Option (Bool)
 | 0, _, _, _, _, _, _, _, _, _, _, _, _, _, _, _ => none
 | k + 1, x2, x9, x10, x11, x12, x580000, x580001, x580002, x580003, x580004, x580005, x592000, x592001, x592002, x592003 => if x12 < (x592001.length : Int) then ((frame_Kept.f x592000 x592001 x592002 x592003 x12).bind fun t602 => (if x10.length < 17592186044416 then (if x11.length < 17592186044416 then (rushlightlaw25_FrameApart.l0 k x2 x9 (x10 ++ [t602]) (x11 ++ [4]) (wrap64 (x12 + 1)) x580000 x580001 x580002 x580003 x580004 x580005 x592000 x592001 x592002 x592003) else (none)) else (none))) else (rushlightlaw25_FrameApart.l1 k x2 x9 x10 x11 0 x580000 x580001 x580002 x580003 x580004 x580005 x592000 x592001 x592002 x592003)
def rushlightlaw25_FrameApart.l1 : Nat → Int → List Bool → List Int → List Int → Int → ByteArray → Bool → Int → Int → List (S76) → List (S45) → Int → List Int → Int → List Int → Option (Bool)
 | 0, _, _, _, _, _, _, _, _, _, _, _, _, _, _, _ => none
 | k + 1, x2, x9, x10, x11, x13, x580000, x580001, x580002, x580003, x580004, x580005, x592000, x592001, x592002, x592003 => if x13 < x2 then ((frame_Slot.f x592000 x592001 x592002 x592003 x13).bind fun t609 => (if x10.length < 17592186044416 then (if x11.length < 17592186044416 then (rushlightlaw25_FrameApart.l1 k x2 x9 (x10 ++ [t609]) (x11 ++ [4]) (wrap64 (x13 + 1)) x580000 x580001 x580002 x580003 x580004 x580005 x592000 x592001 x592002 x592003) else (none)) else (none))) else (rushlightlaw25_FrameApart.l2 k x9 x10 x11 0 x580000 x580001 x580002 x580003 x580004 x580005 x592000 x592001 x592002 x592003)
def rushlightlaw25_FrameApart.l2 : Nat → List Bool → List Int → List Int → Int → ByteArray → Bool → Int → Int → List (S76) → List (S45) → Int → List Int → Int → List Int → Option (Bool)
 | 0, _, _, _, _, _, _, _, _, _, _, _, _, _, _ => none
 | k + 1, x9, x10, x11, x14, x580000, x580001, x580002, x580003, x580004, x580005, x592000, x592001, x592002, x592003 => if x14 < (x592003.length : Int) then (if 0 ≤ x14 then (if x10.length < 17592186044416 then (if x14 < (x580004.length : Int) then (if x11.length < 17592186044416 then (rushlightlaw25_FrameApart.l2 k x9 (x10 ++ [rd x592003 x14]) (x11 ++ [(rd_T76 x580004 x14).f1]) (wrap64 (x14 + 1)) x580000 x580001 x580002 x580003 x580004 x580005 x592000 x592001 x592002 x592003) else (none)) else (none)) else (none)) else (none)) else (rushlightlaw25_FrameApart.l3 k x9 x10 x11 0 x592000 x592001 x592002 x592003)
def rushlightlaw25_FrameApart.l3 : Nat → List Bool → List Int → List Int → Int → Int → List Int → Int → List Int → Option (Bool)
 | 0, _, _, _, _, _, _, _, _ => none
 | k + 1, x9, x10, x11, x15, x592000, x592001, x592002, x592003 => if x15 < (x10.length : Int) then (if 0 ≤ x15 then (if (rd x10 x15) < 0 then (rushlightlaw25_FrameApart.j6 k x9 x10 x11 x15 true x592000 x592001 x592002 x592003) else (if (Int.tmod (rd x10 x15) 4) = 0 then (if (rd x10 x15) > x592000 then (rushlightlaw25_FrameApart.j6 k x9 x10 x11 x15 true x592000 x592001 x592002 x592003) else (if x15 < (x11.length : Int) then (rushlightlaw25_FrameApart.j6 k x9 x10 x11 x15 (decide ((rd x11 x15) > (wrap64 (x592000 - (rd x10 x15))))) x592000 x592001 x592002 x592003) else (none))) else (rushlightlaw25_FrameApart.j6 k x9 x10 x11 x15 true x592000 x592001 x592002 x592003))) else (none)) else ((rushlightlaw25_awake.f k).bind fun t624 => (if t624 = true then (some ((Int.tmod x592000 4) == 0)) else (some false)))
def rushlightlaw25_FrameApart.j6 : Nat → List Bool → List Int → List Int → Int → Bool → Int → List Int → Int → List Int → Option (Bool)
 | 0, _, _, _, _, _, _, _, _, _ => none
 | k + 1, x9, x10, x11, x15, x157, x592000, x592001, x592002, x592003 => if x157 = true then (some false) else (rushlightlaw25_FrameApart.l4 k x9 x10 x11 x15 0 x592000 x592001 x592002 x592003)
def rushlightlaw25_FrameApart.l4 : Nat → List Bool → List Int → List Int → Int → Int → Int → List Int → Int → List Int → Option (Bool)
 | 0, _, _, _, _, _, _, _, _, _ => none
 | k + 1, x9, x10, x11, x15, x16, x592000, x592001, x592002, x592003 => if 0 ≤ x15 then (if x15 < (x11.length : Int) then (if x16 < (rd x11 x15) then (if x15 < (x10.length : Int) then (if 0 ≤ (wrap64 ((rd x10 x15) + x16)) then (if (wrap64 ((rd x10 x15) + x16)) < (x9.length : Int) then (if rdOf false x9 (wrap64 ((rd x10 x15) + x16)) = true then (some false) else (rushlightlaw25_FrameApart.l4 k (x9.set ((wrap64 ((rd x10 x15) + x16)) : Int).toNat true) x10 x11 x15 (wrap64 (x16 + 1)) x592000 x592001 x592002 x592003)) else (none)) else (none)) else (none)) else (rushlightlaw25_FrameApart.l3 k x9 x10 x11 (wrap64 (x15 + 1)) x592000 x592001 x592002 x592003)) else (none)) else (none)
end
def rushlightlaw25_FrameApart.f (k : Nat) (a0_0 : ByteArray) (a0_1 : Bool) (a0_2 : Int) (a0_3 : Int) (l0_4 : List (S76)) (l0_5 : List (S45)) (l1 : List (S80)) (a2 : Int) : Option (Bool) := (rushlightlaw25_few.f k a0_0 a0_1 a0_2 a0_3 l0_4 l0_5 l1).bind fun t580 => (if t580 = true then (if a2 < 0 then (rushlightlaw25_FrameApart.j0 k l1 a2 true a0_0 a0_1 a0_2 a0_3 l0_4 l0_5) else (rushlightlaw25_FrameApart.j0 k l1 a2 (decide (a2 > 600)) a0_0 a0_1 a0_2 a0_3 l0_4 l0_5)) else (rushlightlaw25_FrameApart.j0 k l1 a2 true a0_0 a0_1 a0_2 a0_3 l0_4 l0_5))
theorem rushlightlaw25_FrameApart.mono_l : ∀ k, (∀ y0 y1 y2 y3 y4 y5 y6 y7 y8, LeO (rushlightlaw25_FrameApart.j0 k y0 y1 y2 y3 y4 y5 y6 y7 y8) (rushlightlaw25_FrameApart.j0 (k + 1) y0 y1 y2 y3 y4 y5 y6 y7 y8)) ∧ (∀ y0 y1 y2 y3 y4 y5 y6 y7 y8 y9 y10 y11, LeO (rushlightlaw25_FrameApart.j1 k y0 y1 y2 y3 y4 y5 y6 y7 y8 y9 y10 y11) (rushlightlaw25_FrameApart.j1 (k + 1) y0 y1 y2 y3 y4 y5 y6 y7 y8 y9 y10 y11)) ∧ (∀ y0 y1 y2 y3 y4 y5 y6 y7 y8 y9 y10 y11 y12 y13 y14, LeO (rushlightlaw25_FrameApart.l0 k y0 y1 y2 y3 y4 y5 y6 y7 y8 y9 y10 y11 y12 y13 y14) (rushlightlaw25_FrameApart.l0 (k + 1) y0 y1 y2 y3 y4 y5 y6 y7 y8 y9 y10 y11 y12 y13 y14)) ∧ (∀ y0 y1 y2 y3 y4 y5 y6 y7 y8 y9 y10 y11 y12 y13 y14, LeO (rushlightlaw25_FrameApart.l1 k y0 y1 y2 y3 y4 y5 y6 y7 y8 y9 y10 y11 y12 y13 y14) (rushlightlaw25_FrameApart.l1 (k + 1) y0 y1 y2 y3 y4 y5 y6 y7 y8 y9 y10 y11 y12 y13 y14)) ∧ (∀ y0 y1 y2 y3 y4 y5 y6 y7 y8 y9 y10 y11 y12 y13, LeO (rushlightlaw25_FrameApart.l2 k y0 y1 y2 y3 y4 y5 y6 y7 y8 y9 y10 y11 y12 y13) (rushlightlaw25_FrameApart.l2 (k + 1) y0 y1 y2 y3 y4 y5 y6 y7 y8 y9 y10 y11 y12 y13)) ∧ (∀ y0 y1 y2 y3 y4 y5 y6 y7, LeO (rushlightlaw25_FrameApart.l3 k y0 y1 y2 y3 y4 y5 y6 y7) (rushlightlaw25_FrameApart.l3 (k + 1) y0 y1 y2 y3 y4 y5 y6 y7)) ∧ (∀ y0 y1 y2 y3 y4 y5 y6 y7 y8, LeO (rushlightlaw25_FrameApart.j6 k y0 y1 y2 y3 y4 y5 y6 y7 y8) (rushlightlaw25_FrameApart.j6 (k + 1) y0 y1 y2 y3 y4 y5 y6 y7 y8)) ∧ (∀ y0 y1 y2 y3 y4 y5 y6 y7 y8, LeO (rushlightlaw25_FrameApart.l4 k y0 y1 y2 y3 y4 y5 y6 y7 y8) (rushlightlaw25_FrameApart.l4 (k + 1) y0 y1 y2 y3 y4 y5 y6 y7 y8))
 | 0 => ⟨fun _ _ _ _ _ _ _ _ _ r h => by simp [rushlightlaw25_FrameApart.j0] at h, fun _ _ _ _ _ _ _ _ _ _ _ _ r h => by simp [rushlightlaw25_FrameApart.j1] at h, fun _ _ _ _ _ _ _ _ _ _ _ _ _ _ _ r h => by simp [rushlightlaw25_FrameApart.l0] at h, fun _ _ _ _ _ _ _ _ _ _ _ _ _ _ _ r h => by simp [rushlightlaw25_FrameApart.l1] at h, fun _ _ _ _ _ _ _ _ _ _ _ _ _ _ r h => by simp [rushlightlaw25_FrameApart.l2] at h, fun _ _ _ _ _ _ _ _ r h => by simp [rushlightlaw25_FrameApart.l3] at h, fun _ _ _ _ _ _ _ _ _ r h => by simp [rushlightlaw25_FrameApart.j6] at h, fun _ _ _ _ _ _ _ _ _ r h => by simp [rushlightlaw25_FrameApart.l4] at h⟩
 | k + 1 => by
  obtain ⟨ih0, ih1, ih2, ih3, ih4, ih5, ih6, ih7⟩ := rushlightlaw25_FrameApart.mono_l k
  refine ⟨?_, ?_, ?_, ?_, ?_, ?_, ?_, ?_⟩
  ·
   intro y0 y1 y2 y3 y4 y5 y6 y7 y8
   unfold rushlightlaw25_FrameApart.j0
   repeat' first
   | (with_reducible exact ih0 _ _ _ _ _ _ _ _ _)
   | (with_reducible exact ih1 _ _ _ _ _ _ _ _ _ _ _ _)
   | (with_reducible exact ih2 _ _ _ _ _ _ _ _ _ _ _ _ _ _ _)
   | (with_reducible exact ih3 _ _ _ _ _ _ _ _ _ _ _ _ _ _ _)
   | (with_reducible exact ih4 _ _ _ _ _ _ _ _ _ _ _ _ _ _)
   | (with_reducible exact ih5 _ _ _ _ _ _ _ _)
   | (with_reducible exact ih6 _ _ _ _ _ _ _ _ _)
   | (with_reducible exact ih7 _ _ _ _ _ _ _ _ _)
   | (with_reducible exact frame_Lay.mono _ _ _ _ _ _ _ _ _)
   | (with_reducible exact rushlightlaw25_awake.mono _)
   | (with_reducible exact rushlightlaw25_few.mono _ _ _ _ _ _ _ _)
   | (with_reducible exact LeO.refl _)
   | (with_reducible exact LeO.none _)
   | (with_reducible refine LeO.ite ?_ ?_)
   | (with_reducible refine LeO.bind ?_ (fun _ => ?_))
   | exact ih0 _ _ _ _ _ _ _ _ _
   | exact ih1 _ _ _ _ _ _ _ _ _ _ _ _
   | exact ih2 _ _ _ _ _ _ _ _ _ _ _ _ _ _ _
   | exact ih3 _ _ _ _ _ _ _ _ _ _ _ _ _ _ _
   | exact ih4 _ _ _ _ _ _ _ _ _ _ _ _ _ _
   | exact ih5 _ _ _ _ _ _ _ _
   | exact ih6 _ _ _ _ _ _ _ _ _
   | exact ih7 _ _ _ _ _ _ _ _ _
   | exact frame_Lay.mono _ _ _ _ _ _ _ _ _
   | exact rushlightlaw25_awake.mono _
   | exact rushlightlaw25_few.mono _ _ _ _ _ _ _ _
   | exact LeO.none _
   | refine LeO.ite ?_ ?_
   | refine LeO.bind ?_ (fun _ => ?_)
  ·
   intro y0 y1 y2 y3 y4 y5 y6 y7 y8 y9 y10 y11
   unfold rushlightlaw25_FrameApart.j1
   repeat' first
   | (with_reducible exact ih0 _ _ _ _ _ _ _ _ _)
   | (with_reducible exact ih1 _ _ _ _ _ _ _ _ _ _ _ _)
   | (with_reducible exact ih2 _ _ _ _ _ _ _ _ _ _ _ _ _ _ _)
   | (with_reducible exact ih3 _ _ _ _ _ _ _ _ _ _ _ _ _ _ _)
   | (with_reducible exact ih4 _ _ _ _ _ _ _ _ _ _ _ _ _ _)
   | (with_reducible exact ih5 _ _ _ _ _ _ _ _)
   | (with_reducible exact ih6 _ _ _ _ _ _ _ _ _)
   | (with_reducible exact ih7 _ _ _ _ _ _ _ _ _)
   | (with_reducible exact frame_Lay.mono _ _ _ _ _ _ _ _ _)
   | (with_reducible exact rushlightlaw25_awake.mono _)
   | (with_reducible exact rushlightlaw25_few.mono _ _ _ _ _ _ _ _)
   | (with_reducible exact LeO.refl _)
   | (with_reducible exact LeO.none _)
   | (with_reducible refine LeO.ite ?_ ?_)
   | (with_reducible refine LeO.bind ?_ (fun _ => ?_))
   | exact ih0 _ _ _ _ _ _ _ _ _
   | exact ih1 _ _ _ _ _ _ _ _ _ _ _ _
   | exact ih2 _ _ _ _ _ _ _ _ _ _ _ _ _ _ _
   | exact ih3 _ _ _ _ _ _ _ _ _ _ _ _ _ _ _
   | exact ih4 _ _ _ _ _ _ _ _ _ _ _ _ _ _
   | exact ih5 _ _ _ _ _ _ _ _
   | exact ih6 _ _ _ _ _ _ _ _ _
   | exact ih7 _ _ _ _ _ _ _ _ _
   | exact frame_Lay.mono _ _ _ _ _ _ _ _ _
   | exact rushlightlaw25_awake.mono _
   | exact rushlightlaw25_few.mono _ _ _ _ _ _ _ _
   | exact LeO.none _
   | refine LeO.ite ?_ ?_
   | refine LeO.bind ?_ (fun _ => ?_)
  ·
   intro y0 y1 y2 y3 y4 y5 y6 y7 y8 y9 y10 y11 y12 y13 y14
   unfold rushlightlaw25_FrameApart.l0
   repeat' first
   | (with_reducible exact ih0 _ _ _ _ _ _ _ _ _)
   | (with_reducible exact ih1 _ _ _ _ _ _ _ _ _ _ _ _)
   | (with_reducible exact ih2 _ _ _ _ _ _ _ _ _ _ _ _ _ _ _)
   | (with_reducible exact ih3 _ _ _ _ _ _ _ _ _ _ _ _ _ _ _)
   | (with_reducible exact ih4 _ _ _ _ _ _ _ _ _ _ _ _ _ _)
   | (with_reducible exact ih5 _ _ _ _ _ _ _ _)
   | (with_reducible exact ih6 _ _ _ _ _ _ _ _ _)
   | (with_reducible exact ih7 _ _ _ _ _ _ _ _ _)
   | (with_reducible exact frame_Lay.mono _ _ _ _ _ _ _ _ _)
   | (with_reducible exact rushlightlaw25_awake.mono _)
   | (with_reducible exact rushlightlaw25_few.mono _ _ _ _ _ _ _ _)
   | (with_reducible exact LeO.refl _)
   | (with_reducible exact LeO.none _)
   | (with_reducible refine LeO.ite ?_ ?_)
   | (with_reducible refine LeO.bind ?_ (fun _ => ?_))
   | exact ih0 _ _ _ _ _ _ _ _ _
   | exact ih1 _ _ _ _ _ _ _ _ _ _ _ _
   | exact ih2 _ _ _ _ _ _ _ _ _ _ _ _ _ _ _
   | exact ih3 _ _ _ _ _ _ _ _ _ _ _ _ _ _ _
   | exact ih4 _ _ _ _ _ _ _ _ _ _ _ _ _ _
   | exact ih5 _ _ _ _ _ _ _ _
   | exact ih6 _ _ _ _ _ _ _ _ _
   | exact ih7 _ _ _ _ _ _ _ _ _
   | exact frame_Lay.mono _ _ _ _ _ _ _ _ _
   | exact rushlightlaw25_awake.mono _
   | exact rushlightlaw25_few.mono _ _ _ _ _ _ _ _
   | exact LeO.none _
   | refine LeO.ite ?_ ?_
   | refine LeO.bind ?_ (fun _ => ?_)
  ·
   intro y0 y1 y2 y3 y4 y5 y6 y7 y8 y9 y10 y11 y12 y13 y14
   unfold rushlightlaw25_FrameApart.l1
   repeat' first
   | (with_reducible exact ih0 _ _ _ _ _ _ _ _ _)
   | (with_reducible exact ih1 _ _ _ _ _ _ _ _ _ _ _ _)
   | (with_reducible exact ih2 _ _ _ _ _ _ _ _ _ _ _ _ _ _ _)
   | (with_reducible exact ih3 _ _ _ _ _ _ _ _ _ _ _ _ _ _ _)
   | (with_reducible exact ih4 _ _ _ _ _ _ _ _ _ _ _ _ _ _)
   | (with_reducible exact ih5 _ _ _ _ _ _ _ _)
   | (with_reducible exact ih6 _ _ _ _ _ _ _ _ _)
   | (with_reducible exact ih7 _ _ _ _ _ _ _ _ _)
   | (with_reducible exact frame_Lay.mono _ _ _ _ _ _ _ _ _)
   | (with_reducible exact rushlightlaw25_awake.mono _)
   | (with_reducible exact rushlightlaw25_few.mono _ _ _ _ _ _ _ _)
   | (with_reducible exact LeO.refl _)
   | (with_reducible exact LeO.none _)
   | (with_reducible refine LeO.ite ?_ ?_)
   | (with_reducible refine LeO.bind ?_ (fun _ => ?_))
   | exact ih0 _ _ _ _ _ _ _ _ _
   | exact ih1 _ _ _ _ _ _ _ _ _ _ _ _
   | exact ih2 _ _ _ _ _ _ _ _ _ _ _ _ _ _ _
   | exact ih3 _ _ _ _ _ _ _ _ _ _ _ _ _ _ _
   | exact ih4 _ _ _ _ _ _ _ _ _ _ _ _ _ _
   | exact ih5 _ _ _ _ _ _ _ _
   | exact ih6 _ _ _ _ _ _ _ _ _
   | exact ih7 _ _ _ _ _ _ _ _ _
   | exact frame_Lay.mono _ _ _ _ _ _ _ _ _
   | exact rushlightlaw25_awake.mono _
   | exact rushlightlaw25_few.mono _ _ _ _ _ _ _ _
   | exact LeO.none _
   | refine LeO.ite ?_ ?_
   | refine LeO.bind ?_ (fun _ => ?_)
  ·
   intro y0 y1 y2 y3 y4 y5 y6 y7 y8 y9 y10 y11 y12 y13
   unfold rushlightlaw25_FrameApart.l2
   repeat' first
   | (with_reducible exact ih0 _ _ _ _ _ _ _ _ _)
   | (with_reducible exact ih1 _ _ _ _ _ _ _ _ _ _ _ _)
   | (with_reducible exact ih2 _ _ _ _ _ _ _ _ _ _ _ _ _ _ _)
   | (with_reducible exact ih3 _ _ _ _ _ _ _ _ _ _ _ _ _ _ _)
   | (with_reducible exact ih4 _ _ _ _ _ _ _ _ _ _ _ _ _ _)
   | (with_reducible exact ih5 _ _ _ _ _ _ _ _)
   | (with_reducible exact ih6 _ _ _ _ _ _ _ _ _)
   | (with_reducible exact ih7 _ _ _ _ _ _ _ _ _)
   | (with_reducible exact frame_Lay.mono _ _ _ _ _ _ _ _ _)
   | (with_reducible exact rushlightlaw25_awake.mono _)
   | (with_reducible exact rushlightlaw25_few.mono _ _ _ _ _ _ _ _)
   | (with_reducible exact LeO.refl _)
   | (with_reducible exact LeO.none _)
   | (with_reducible refine LeO.ite ?_ ?_)
   | (with_reducible refine LeO.bind ?_ (fun _ => ?_))
   | exact ih0 _ _ _ _ _ _ _ _ _
   | exact ih1 _ _ _ _ _ _ _ _ _ _ _ _
   | exact ih2 _ _ _ _ _ _ _ _ _ _ _ _ _ _ _
   | exact ih3 _ _ _ _ _ _ _ _ _ _ _ _ _ _ _
   | exact ih4 _ _ _ _ _ _ _ _ _ _ _ _ _ _
   | exact ih5 _ _ _ _ _ _ _ _
   | exact ih6 _ _ _ _ _ _ _ _ _
   | exact ih7 _ _ _ _ _ _ _ _ _
   | exact frame_Lay.mono _ _ _ _ _ _ _ _ _
   | exact rushlightlaw25_awake.mono _
   | exact rushlightlaw25_few.mono _ _ _ _ _ _ _ _
   | exact LeO.none _
   | refine LeO.ite ?_ ?_
   | refine LeO.bind ?_ (fun _ => ?_)
  ·
   intro y0 y1 y2 y3 y4 y5 y6 y7
   unfold rushlightlaw25_FrameApart.l3
   repeat' first
   | (with_reducible exact ih0 _ _ _ _ _ _ _ _ _)
   | (with_reducible exact ih1 _ _ _ _ _ _ _ _ _ _ _ _)
   | (with_reducible exact ih2 _ _ _ _ _ _ _ _ _ _ _ _ _ _ _)
   | (with_reducible exact ih3 _ _ _ _ _ _ _ _ _ _ _ _ _ _ _)
   | (with_reducible exact ih4 _ _ _ _ _ _ _ _ _ _ _ _ _ _)
   | (with_reducible exact ih5 _ _ _ _ _ _ _ _)
   | (with_reducible exact ih6 _ _ _ _ _ _ _ _ _)
   | (with_reducible exact ih7 _ _ _ _ _ _ _ _ _)
   | (with_reducible exact frame_Lay.mono _ _ _ _ _ _ _ _ _)
   | (with_reducible exact rushlightlaw25_awake.mono _)
   | (with_reducible exact rushlightlaw25_few.mono _ _ _ _ _ _ _ _)
   | (with_reducible exact LeO.refl _)
   | (with_reducible exact LeO.none _)
   | (with_reducible refine LeO.ite ?_ ?_)
   | (with_reducible refine LeO.bind ?_ (fun _ => ?_))
   | exact ih0 _ _ _ _ _ _ _ _ _
   | exact ih1 _ _ _ _ _ _ _ _ _ _ _ _
   | exact ih2 _ _ _ _ _ _ _ _ _ _ _ _ _ _ _
   | exact ih3 _ _ _ _ _ _ _ _ _ _ _ _ _ _ _
   | exact ih4 _ _ _ _ _ _ _ _ _ _ _ _ _ _
   | exact ih5 _ _ _ _ _ _ _ _
   | exact ih6 _ _ _ _ _ _ _ _ _
   | exact ih7 _ _ _ _ _ _ _ _ _
   | exact frame_Lay.mono _ _ _ _ _ _ _ _ _
   | exact rushlightlaw25_awake.mono _
   | exact rushlightlaw25_few.mono _ _ _ _ _ _ _ _
   | exact LeO.none _
   | refine LeO.ite ?_ ?_
   | refine LeO.bind ?_ (fun _ => ?_)
  ·
   intro y0 y1 y2 y3 y4 y5 y6 y7 y8
   unfold rushlightlaw25_FrameApart.j6
   repeat' first
   | (with_reducible exact ih0 _ _ _ _ _ _ _ _ _)
   | (with_reducible exact ih1 _ _ _ _ _ _ _ _ _ _ _ _)
   | (with_reducible exact ih2 _ _ _ _ _ _ _ _ _ _ _ _ _ _ _)
   | (with_reducible exact ih3 _ _ _ _ _ _ _ _ _ _ _ _ _ _ _)
   | (with_reducible exact ih4 _ _ _ _ _ _ _ _ _ _ _ _ _ _)
   | (with_reducible exact ih5 _ _ _ _ _ _ _ _)
   | (with_reducible exact ih6 _ _ _ _ _ _ _ _ _)
   | (with_reducible exact ih7 _ _ _ _ _ _ _ _ _)
   | (with_reducible exact frame_Lay.mono _ _ _ _ _ _ _ _ _)
   | (with_reducible exact rushlightlaw25_awake.mono _)
   | (with_reducible exact rushlightlaw25_few.mono _ _ _ _ _ _ _ _)
   | (with_reducible exact LeO.refl _)
   | (with_reducible exact LeO.none _)
   | (with_reducible refine LeO.ite ?_ ?_)
   | (with_reducible refine LeO.bind ?_ (fun _ => ?_))
   | exact ih0 _ _ _ _ _ _ _ _ _
   | exact ih1 _ _ _ _ _ _ _ _ _ _ _ _
   | exact ih2 _ _ _ _ _ _ _ _ _ _ _ _ _ _ _
   | exact ih3 _ _ _ _ _ _ _ _ _ _ _ _ _ _ _
   | exact ih4 _ _ _ _ _ _ _ _ _ _ _ _ _ _
   | exact ih5 _ _ _ _ _ _ _ _
   | exact ih6 _ _ _ _ _ _ _ _ _
   | exact ih7 _ _ _ _ _ _ _ _ _
   | exact frame_Lay.mono _ _ _ _ _ _ _ _ _
   | exact rushlightlaw25_awake.mono _
   | exact rushlightlaw25_few.mono _ _ _ _ _ _ _ _
   | exact LeO.none _
   | refine LeO.ite ?_ ?_
   | refine LeO.bind ?_ (fun _ => ?_)
  ·
   intro y0 y1 y2 y3 y4 y5 y6 y7 y8
   unfold rushlightlaw25_FrameApart.l4
   repeat' first
   | (with_reducible exact ih0 _ _ _ _ _ _ _ _ _)
   | (with_reducible exact ih1 _ _ _ _ _ _ _ _ _ _ _ _)
   | (with_reducible exact ih2 _ _ _ _ _ _ _ _ _ _ _ _ _ _ _)
   | (with_reducible exact ih3 _ _ _ _ _ _ _ _ _ _ _ _ _ _ _)
   | (with_reducible exact ih4 _ _ _ _ _ _ _ _ _ _ _ _ _ _)
   | (with_reducible exact ih5 _ _ _ _ _ _ _ _)
   | (with_reducible exact ih6 _ _ _ _ _ _ _ _ _)
   | (with_reducible exact ih7 _ _ _ _ _ _ _ _ _)
   | (with_reducible exact frame_Lay.mono _ _ _ _ _ _ _ _ _)
   | (with_reducible exact rushlightlaw25_awake.mono _)
   | (with_reducible exact rushlightlaw25_few.mono _ _ _ _ _ _ _ _)
   | (with_reducible exact LeO.refl _)
   | (with_reducible exact LeO.none _)
   | (with_reducible refine LeO.ite ?_ ?_)
   | (with_reducible refine LeO.bind ?_ (fun _ => ?_))
   | exact ih0 _ _ _ _ _ _ _ _ _
   | exact ih1 _ _ _ _ _ _ _ _ _ _ _ _
   | exact ih2 _ _ _ _ _ _ _ _ _ _ _ _ _ _ _
   | exact ih3 _ _ _ _ _ _ _ _ _ _ _ _ _ _ _
   | exact ih4 _ _ _ _ _ _ _ _ _ _ _ _ _ _
   | exact ih5 _ _ _ _ _ _ _ _
   | exact ih6 _ _ _ _ _ _ _ _ _
   | exact ih7 _ _ _ _ _ _ _ _ _
   | exact frame_Lay.mono _ _ _ _ _ _ _ _ _
   | exact rushlightlaw25_awake.mono _
   | exact rushlightlaw25_few.mono _ _ _ _ _ _ _ _
   | exact LeO.none _
   | refine LeO.ite ?_ ?_
   | refine LeO.bind ?_ (fun _ => ?_)
theorem rushlightlaw25_FrameApart.mono : ∀ a0 a1 a2 a3 a4 a5 a6 a7 k, LeO (rushlightlaw25_FrameApart.f k a0 a1 a2 a3 a4 a5 a6 a7) (rushlightlaw25_FrameApart.f (k + 1) a0 a1 a2 a3 a4 a5 a6 a7) := by
 intro a0 a1 a2 a3 a4 a5 a6 a7 k
 obtain ⟨ih0, ih1, ih2, ih3, ih4, ih5, ih6, ih7⟩ := rushlightlaw25_FrameApart.mono_l k
 unfold rushlightlaw25_FrameApart.f
 repeat' first
   | (with_reducible exact ih0 _ _ _ _ _ _ _ _ _)
   | (with_reducible exact ih1 _ _ _ _ _ _ _ _ _ _ _ _)
   | (with_reducible exact ih2 _ _ _ _ _ _ _ _ _ _ _ _ _ _ _)
   | (with_reducible exact ih3 _ _ _ _ _ _ _ _ _ _ _ _ _ _ _)
   | (with_reducible exact ih4 _ _ _ _ _ _ _ _ _ _ _ _ _ _)
   | (with_reducible exact ih5 _ _ _ _ _ _ _ _)
   | (with_reducible exact ih6 _ _ _ _ _ _ _ _ _)
   | (with_reducible exact ih7 _ _ _ _ _ _ _ _ _)
   | (with_reducible exact frame_Lay.mono _ _ _ _ _ _ _ _ _)
   | (with_reducible exact rushlightlaw25_awake.mono _)
   | (with_reducible exact rushlightlaw25_few.mono _ _ _ _ _ _ _ _)
   | (with_reducible exact LeO.refl _)
   | (with_reducible exact LeO.none _)
   | (with_reducible refine LeO.ite ?_ ?_)
   | (with_reducible refine LeO.bind ?_ (fun _ => ?_))
   | exact ih0 _ _ _ _ _ _ _ _ _
   | exact ih1 _ _ _ _ _ _ _ _ _ _ _ _
   | exact ih2 _ _ _ _ _ _ _ _ _ _ _ _ _ _ _
   | exact ih3 _ _ _ _ _ _ _ _ _ _ _ _ _ _ _
   | exact ih4 _ _ _ _ _ _ _ _ _ _ _ _ _ _
   | exact ih5 _ _ _ _ _ _ _ _
   | exact ih6 _ _ _ _ _ _ _ _ _
   | exact ih7 _ _ _ _ _ _ _ _ _
   | exact frame_Lay.mono _ _ _ _ _ _ _ _ _
   | exact rushlightlaw25_awake.mono _
   | exact rushlightlaw25_few.mono _ _ _ _ _ _ _ _
   | exact LeO.none _
   | refine LeO.ite ?_ ?_
   | refine LeO.bind ?_ (fun _ => ?_)
set_option maxHeartbeats 8000000 in
set_option maxRecDepth 100000 in
theorem rushlightlaw25_FrameApart.calls (k : Nat) (a0_0 : ByteArray) (a0_1 : Bool) (a0_2 : Int) (a0_3 : Int) (A0_4 : Option Addr) (c0_4 : Nat) (l0_4 : List (S76)) (A0_5 : Option Addr) (c0_5 : Nat) (l0_5 : List (S45)) (A1 : Option Addr) (c1 : Nat) (l1 : List (S80)) (a2 : Int) (r : Bool) (w : World) (hr0_4 : Kd.C k76 w A0_4 l0_4.length l0_4) (hc0_4 : l0_4.length ≤ c0_4) (hr0_5 : Kd.C k45 w A0_5 l0_5.length l0_5) (hc0_5 : l0_5.length ≤ c0_5) (hr1 : Kd.C k80 w A1 l1.length l1) (hc1 : l1.length ≤ c1) (h : rushlightlaw25_FrameApart.f k a0_0 a0_1 a0_2 a0_3 l0_4 l0_5 l1 a2 = some r) :
  Calls Try.prog 9 #[.agg #[.string a0_0, .bool a0_1, .int .i64 a0_2, .int .i64 a0_3, .slice A0_4 l0_4.length c0_4, .slice A0_5 l0_5.length c0_5], .slice A1 l1.length c1, .int .i64 a2] w fun e w' => e = .returned (.bool r) ∧ Below w.heap.size w w' := by
 have hu31 := Try.underlying31
 have hu67 := Try.underlying67
 have HR0_4 := Aside0.mk hr0_4
 have HC0_4 := Aside0.mk hc0_4
 clear hr0_4 hc0_4
 have HR0_5 := Aside0.mk hr0_5
 have HC0_5 := Aside0.mk hc0_5
 clear hr0_5 hc0_5
 have HR1 := Aside0.mk hr1
 have HC1 := Aside0.mk hc1
 clear hr1 hc1
 have HB := Aside0.mk (Below.refl w.heap.size w)
 have H : ((rushlightlaw25_few.f k a0_0 a0_1 a0_2 a0_3 l0_4 l0_5 l1).bind fun t580 => (if t580 = true then (if a2 < 0 then (rushlightlaw25_FrameApart.j0 k l1 a2 true a0_0 a0_1 a0_2 a0_3 l0_4 l0_5) else (rushlightlaw25_FrameApart.j0 k l1 a2 (decide (a2 > 600)) a0_0 a0_1 a0_2 a0_3 l0_4 l0_5)) else (rushlightlaw25_FrameApart.j0 k l1 a2 true a0_0 a0_1 a0_2 a0_3 l0_4 l0_5))) = some r := h
 clear h
 have HC4 := Aside0.mk H
 clear H
 go_enter Try.func9, Try.ntmps9
 go_upto_region 1 with (first | ((with_reducible refine gate_dst (N := 3) rfl ?_); (try (refine gate_guard (by rfl) ?_; dsimp only)); refine box_event ?hg (N := 3) ?hd (cs := #[.string a0_0, .bool a0_1, .int .i64 a0_2, .int .i64 a0_3, .slice A0_4 l0_4.length c0_4, .slice A0_5 l0_5.length c0_5]) (t := 31) ?hr ?_; (case hd => rfl); (case hg => rfl); (case hr => first | (go_simp; done) | (go_simp; rfl)); intro gb579 hg w5 hbox hb; have n0_ := Aside0.mk (below_step (by repeat (first | (with_reducible first | exact HB.out | apply below_alloc | apply pw_below_drewN | apply below_drew1) | exact HB.out)) hb); have n1_ := Aside0.mk (hbox); have n2_ := Aside0.mk ((by rw [hg]; exact (below_size (by repeat (first | (with_reducible first | exact HB.out | apply below_alloc | apply pw_below_drewN | apply below_drew1) | exact HB.out))) : w.heap.size ≤ gb579)); have n3_ := Aside0.mk ((by rw [hg]; exact (below_size (by repeat (first | (with_reducible first | exact HB.out | apply below_alloc | apply pw_below_drewN | apply below_drew1) | exact HB.out))) : w.heap.size ≤ gb579)); clear HB; have HB := n0_; have BK579 := n1_; have GW579 := n2_; have GE579 := n3_; clear n0_ n1_ n2_ n3_; clear hb hbox hg))
 repeat (go_quiet (first | ((with_reducible refine gate_dst (N := 3) rfl ?_); (try (refine gate_guard (by rfl) ?_; dsimp only)); refine box_event ?hg (N := 3) ?hd (cs := #[.string a0_0, .bool a0_1, .int .i64 a0_2, .int .i64 a0_3, .slice A0_4 l0_4.length c0_4, .slice A0_5 l0_5.length c0_5]) (t := 31) ?hr ?_; (case hd => rfl); (case hg => rfl); (case hr => first | (go_simp; done) | (go_simp; rfl)); intro gb579 hg w5 hbox hb; have n0_ := Aside0.mk (below_step (by repeat (first | (with_reducible first | exact HB.out | apply below_alloc | apply pw_below_drewN | apply below_drew1) | exact HB.out)) hb); have n1_ := Aside0.mk (hbox); have n2_ := Aside0.mk ((by rw [hg]; exact (below_size (by repeat (first | (with_reducible first | exact HB.out | apply below_alloc | apply pw_below_drewN | apply below_drew1) | exact HB.out))) : w.heap.size ≤ gb579)); have n3_ := Aside0.mk ((by rw [hg]; exact (below_size (by repeat (first | (with_reducible first | exact HB.out | apply below_alloc | apply pw_below_drewN | apply below_drew1) | exact HB.out))) : w.heap.size ≤ gb579)); clear HB; have HB := n0_; have BK579 := n1_; have GW579 := n2_; have GE579 := n3_; clear n0_ n1_ n2_ n3_; clear hb hbox hg)); go_upto_region 1 with (first | ((with_reducible refine gate_dst (N := 3) rfl ?_); (try (refine gate_guard (by rfl) ?_; dsimp only)); refine box_event ?hg (N := 3) ?hd (cs := #[.string a0_0, .bool a0_1, .int .i64 a0_2, .int .i64 a0_3, .slice A0_4 l0_4.length c0_4, .slice A0_5 l0_5.length c0_5]) (t := 31) ?hr ?_; (case hd => rfl); (case hg => rfl); (case hr => first | (go_simp; done) | (go_simp; rfl)); intro gb579 hg w5 hbox hb; have n0_ := Aside0.mk (below_step (by repeat (first | (with_reducible first | exact HB.out | apply below_alloc | apply pw_below_drewN | apply below_drew1) | exact HB.out)) hb); have n1_ := Aside0.mk (hbox); have n2_ := Aside0.mk ((by rw [hg]; exact (below_size (by repeat (first | (with_reducible first | exact HB.out | apply below_alloc | apply pw_below_drewN | apply below_drew1) | exact HB.out))) : w.heap.size ≤ gb579)); have n3_ := Aside0.mk ((by rw [hg]; exact (below_size (by repeat (first | (with_reducible first | exact HB.out | apply below_alloc | apply pw_below_drewN | apply below_drew1) | exact HB.out))) : w.heap.size ≤ gb579)); clear HB; have HB := n0_; have BK579 := n1_; have GW579 := n2_; have GE579 := n3_; clear n0_ n1_ n2_ n3_; clear hb hbox hg)))
 (try simp only [Act.put, List.setIfInBounds_toArray, List.set_cons_zero, List.set_cons_succ])
 go_cut [28] (fun v28 wc => ∃ (kq : Nat) (x28_3 : Bool), v28 = .bool x28_3 ∧ Aside0 (rushlightlaw25_FrameApart.j0 kq l1 a2 x28_3 a0_0 a0_1 a0_2 a0_3 l0_4 l0_5 = some r) ∧ Aside0 (kq ≤ k) ∧ Aside0 (wc.heap[gb579]? = some (.cells #[.string a0_0, .bool a0_1, .int .i64 a0_2, .int .i64 a0_3, (.slice A0_4 l0_4.length c0_4), (.slice A0_5 l0_5.length c0_5)] 31 (0, 0))) ∧ Aside0 (Below w.heap.size w wc))
 case first =>
  have H := HC4.out
  clear HC4
  replace H := Option.bind_eq_some_iff.mp H
  obtain ⟨t580, A60, H⟩ := H
  replace H : (if t580 = true then (if a2 < 0 then (rushlightlaw25_FrameApart.j0 k l1 a2 true a0_0 a0_1 a0_2 a0_3 l0_4 l0_5) else (rushlightlaw25_FrameApart.j0 k l1 a2 (decide (a2 > 600)) a0_0 a0_1 a0_2 a0_3 l0_4 l0_5)) else (rushlightlaw25_FrameApart.j0 k l1 a2 true a0_0 a0_1 a0_2 a0_3 l0_4 l0_5)) = some r := H
  have A6 := Aside0.mk A60
  clear A60
  by_cases c7 : t580 = true
  ·
   subst c7
   have H1 : (if a2 < 0 then (rushlightlaw25_FrameApart.j0 k l1 a2 true a0_0 a0_1 a0_2 a0_3 l0_4 l0_5) else (rushlightlaw25_FrameApart.j0 k l1 a2 (decide (a2 > 600)) a0_0 a0_1 a0_2 a0_3 l0_4 l0_5)) = some r := by rw [if_pos rfl] at H; exact H
   clear H
   have H := H1
   clear H1
   by_cases c8 : a2 < 0
   ·
    rw [if_pos c8] at H
    have c8b0 : decide (a2 < 0) = true := decide_eq_true c8
    clear c8
    (first | rw [c8b0] | (simp only [i64_w, i32_w]; rw [c8b0]) | skip)
    have H' := Aside0.mk H
    clear H
    have hcz9_0 : w5.cell? ⟨gb579, 0, none⟩ = some (.string a0_0) := (blk_cell BK579.out 0).trans rfl
    have hcz9_1 : w5.cell? ⟨gb579, 1, none⟩ = some (.bool a0_1) := (blk_cell BK579.out 1).trans rfl
    have hcz9_2 : w5.cell? ⟨gb579, 2, none⟩ = some (.int .i64 a0_2) := (blk_cell BK579.out 2).trans rfl
    have hcz9_3 : w5.cell? ⟨gb579, 3, none⟩ = some (.int .i64 a0_3) := (blk_cell BK579.out 3).trans rfl
    have hcz9_4 : w5.cell? ⟨gb579, 4, none⟩ = some (.slice A0_4 l0_4.length c0_4) := (blk_cell BK579.out 4).trans rfl
    have hcz9_5 : w5.cell? ⟨gb579, 5, none⟩ = some (.slice A0_5 l0_5.length c0_5) := (blk_cell BK579.out 5).trans rfl
    have hfz9_0 := blk_frozen BK579.out 0
    have hfz9_1 := blk_frozen BK579.out 1
    have hfz9_2 := blk_frozen BK579.out 2
    have hfz9_3 := blk_frozen BK579.out 3
    have hfz9_4 := blk_frozen BK579.out 4
    have hfz9_5 := blk_frozen BK579.out 5
    go_wp2_with (first | (go_at_call 31; (with_reducible refine (rushlightlaw25_few.calls k a0_0 a0_1 a0_2 a0_3 _ _ l0_4 _ _ l0_5 _ _ l1 true _ ?side1 ?side2 ?side3 ?side4 ?side5 ?side6 A6.out).mono ?_); (case side1 => repeat (first | exact (Kd.C_below HR0_4.out HB.out) | (with_reducible refine Kd.C_alloc ?_ _) | (with_reducible refine Kd.C_drewN ?_ _) | (with_reducible refine Kd.C_drew ?_))); (case side2 => exact HC0_4.out); (case side3 => repeat (first | exact (Kd.C_below HR0_5.out HB.out) | (with_reducible refine Kd.C_alloc ?_ _) | (with_reducible refine Kd.C_drewN ?_ _) | (with_reducible refine Kd.C_drew ?_))); (case side4 => exact HC0_5.out); (case side5 => repeat (first | exact (Kd.C_below HR1.out HB.out) | (with_reducible refine Kd.C_alloc ?_ _) | (with_reducible refine Kd.C_drewN ?_ _) | (with_reducible refine Kd.C_drew ?_))); (case side6 => exact HC1.out); rintro e w10 ⟨rfl, hb⟩; have n0_ := Aside0.mk (blk_below (g := gb579) (o := .cells #[.string a0_0, .bool a0_1, .int .i64 a0_2, .int .i64 a0_3, .slice A0_4 l0_4.length c0_4, .slice A0_5 l0_5.length c0_5] 31 (0, 0)) (by (with_reducible repeat (first | refine blk_drewN ?_ _ | refine blk_drew ?_ | refine blk_alloc ?_ _)); exact BK579.out) hb); have n1_ := Aside0.mk (below_step (by repeat (first | (with_reducible first | exact HB.out | apply below_alloc | apply pw_below_drewN | apply below_drew1 | refine below_set ?_ GE579.out) | exact HB.out)) hb); clear BK579; clear HB; have BK579 := n0_; have HB := n1_; clear n0_ n1_; (try clear hb); (try clear hb2); (try clear hk); (try clear hi)))
    repeat (go_quiet (first | (go_at_call 31; (with_reducible refine (rushlightlaw25_few.calls k a0_0 a0_1 a0_2 a0_3 _ _ l0_4 _ _ l0_5 _ _ l1 true _ ?side1 ?side2 ?side3 ?side4 ?side5 ?side6 A6.out).mono ?_); (case side1 => repeat (first | exact (Kd.C_below HR0_4.out HB.out) | (with_reducible refine Kd.C_alloc ?_ _) | (with_reducible refine Kd.C_drewN ?_ _) | (with_reducible refine Kd.C_drew ?_))); (case side2 => exact HC0_4.out); (case side3 => repeat (first | exact (Kd.C_below HR0_5.out HB.out) | (with_reducible refine Kd.C_alloc ?_ _) | (with_reducible refine Kd.C_drewN ?_ _) | (with_reducible refine Kd.C_drew ?_))); (case side4 => exact HC0_5.out); (case side5 => repeat (first | exact (Kd.C_below HR1.out HB.out) | (with_reducible refine Kd.C_alloc ?_ _) | (with_reducible refine Kd.C_drewN ?_ _) | (with_reducible refine Kd.C_drew ?_))); (case side6 => exact HC1.out); rintro e w10 ⟨rfl, hb⟩; have n0_ := Aside0.mk (blk_below (g := gb579) (o := .cells #[.string a0_0, .bool a0_1, .int .i64 a0_2, .int .i64 a0_3, .slice A0_4 l0_4.length c0_4, .slice A0_5 l0_5.length c0_5] 31 (0, 0)) (by (with_reducible repeat (first | refine blk_drewN ?_ _ | refine blk_drew ?_ | refine blk_alloc ?_ _)); exact BK579.out) hb); have n1_ := Aside0.mk (below_step (by repeat (first | (with_reducible first | exact HB.out | apply below_alloc | apply pw_below_drewN | apply below_drew1 | refine below_set ?_ GE579.out) | exact HB.out)) hb); clear BK579; clear HB; have BK579 := n0_; have HB := n1_; clear n0_ n1_; (try clear hb); (try clear hb2); (try clear hk); (try clear hi))); try go_wp2_with (first | (go_at_call 31; (with_reducible refine (rushlightlaw25_few.calls k a0_0 a0_1 a0_2 a0_3 _ _ l0_4 _ _ l0_5 _ _ l1 true _ ?side1 ?side2 ?side3 ?side4 ?side5 ?side6 A6.out).mono ?_); (case side1 => repeat (first | exact (Kd.C_below HR0_4.out HB.out) | (with_reducible refine Kd.C_alloc ?_ _) | (with_reducible refine Kd.C_drewN ?_ _) | (with_reducible refine Kd.C_drew ?_))); (case side2 => exact HC0_4.out); (case side3 => repeat (first | exact (Kd.C_below HR0_5.out HB.out) | (with_reducible refine Kd.C_alloc ?_ _) | (with_reducible refine Kd.C_drewN ?_ _) | (with_reducible refine Kd.C_drew ?_))); (case side4 => exact HC0_5.out); (case side5 => repeat (first | exact (Kd.C_below HR1.out HB.out) | (with_reducible refine Kd.C_alloc ?_ _) | (with_reducible refine Kd.C_drewN ?_ _) | (with_reducible refine Kd.C_drew ?_))); (case side6 => exact HC1.out); rintro e w10 ⟨rfl, hb⟩; have n0_ := Aside0.mk (blk_below (g := gb579) (o := .cells #[.string a0_0, .bool a0_1, .int .i64 a0_2, .int .i64 a0_3, .slice A0_4 l0_4.length c0_4, .slice A0_5 l0_5.length c0_5] 31 (0, 0)) (by (with_reducible repeat (first | refine blk_drewN ?_ _ | refine blk_drew ?_ | refine blk_alloc ?_ _)); exact BK579.out) hb); have n1_ := Aside0.mk (below_step (by repeat (first | (with_reducible first | exact HB.out | apply below_alloc | apply pw_below_drewN | apply below_drew1 | refine below_set ?_ GE579.out) | exact HB.out)) hb); clear BK579; clear HB; have BK579 := n0_; have HB := n1_; clear n0_ n1_; (try clear hb); (try clear hb2); (try clear hk); (try clear hi))))
    go_meet
    case rel => exact ⟨_, (true), (by first | rfl | (simp; done) | (simp [*]; done)), H', ⟨by first | omega | exact Nat.le_refl _⟩, ⟨by (with_reducible repeat (first | refine blk_drewN ?_ _ | refine blk_drew ?_ | refine blk_alloc ?_ _)); exact BK579.out⟩, ⟨by repeat (first | (with_reducible first | exact HB.out | apply below_alloc | apply pw_below_drewN | apply below_drew1 | refine below_set ?_ GE579.out) | exact HB.out)⟩⟩
   ·
    rw [if_neg c8] at H
    have c8b0 : decide (a2 < 0) = false := decide_eq_false c8
    clear c8
    (first | rw [c8b0] | (simp only [i64_w, i32_w]; rw [c8b0]) | skip)
    have H' := Aside0.mk H
    clear H
    have hcz11_0 : w5.cell? ⟨gb579, 0, none⟩ = some (.string a0_0) := (blk_cell BK579.out 0).trans rfl
    have hcz11_1 : w5.cell? ⟨gb579, 1, none⟩ = some (.bool a0_1) := (blk_cell BK579.out 1).trans rfl
    have hcz11_2 : w5.cell? ⟨gb579, 2, none⟩ = some (.int .i64 a0_2) := (blk_cell BK579.out 2).trans rfl
    have hcz11_3 : w5.cell? ⟨gb579, 3, none⟩ = some (.int .i64 a0_3) := (blk_cell BK579.out 3).trans rfl
    have hcz11_4 : w5.cell? ⟨gb579, 4, none⟩ = some (.slice A0_4 l0_4.length c0_4) := (blk_cell BK579.out 4).trans rfl
    have hcz11_5 : w5.cell? ⟨gb579, 5, none⟩ = some (.slice A0_5 l0_5.length c0_5) := (blk_cell BK579.out 5).trans rfl
    have hfz11_0 := blk_frozen BK579.out 0
    have hfz11_1 := blk_frozen BK579.out 1
    have hfz11_2 := blk_frozen BK579.out 2
    have hfz11_3 := blk_frozen BK579.out 3
    have hfz11_4 := blk_frozen BK579.out 4
    have hfz11_5 := blk_frozen BK579.out 5
    go_wp2_with (first | (go_at_call 31; (with_reducible refine (rushlightlaw25_few.calls k a0_0 a0_1 a0_2 a0_3 _ _ l0_4 _ _ l0_5 _ _ l1 true _ ?side1 ?side2 ?side3 ?side4 ?side5 ?side6 A6.out).mono ?_); (case side1 => repeat (first | exact (Kd.C_below HR0_4.out HB.out) | (with_reducible refine Kd.C_alloc ?_ _) | (with_reducible refine Kd.C_drewN ?_ _) | (with_reducible refine Kd.C_drew ?_))); (case side2 => exact HC0_4.out); (case side3 => repeat (first | exact (Kd.C_below HR0_5.out HB.out) | (with_reducible refine Kd.C_alloc ?_ _) | (with_reducible refine Kd.C_drewN ?_ _) | (with_reducible refine Kd.C_drew ?_))); (case side4 => exact HC0_5.out); (case side5 => repeat (first | exact (Kd.C_below HR1.out HB.out) | (with_reducible refine Kd.C_alloc ?_ _) | (with_reducible refine Kd.C_drewN ?_ _) | (with_reducible refine Kd.C_drew ?_))); (case side6 => exact HC1.out); rintro e w12 ⟨rfl, hb⟩; have n0_ := Aside0.mk (blk_below (g := gb579) (o := .cells #[.string a0_0, .bool a0_1, .int .i64 a0_2, .int .i64 a0_3, .slice A0_4 l0_4.length c0_4, .slice A0_5 l0_5.length c0_5] 31 (0, 0)) (by (with_reducible repeat (first | refine blk_drewN ?_ _ | refine blk_drew ?_ | refine blk_alloc ?_ _)); exact BK579.out) hb); have n1_ := Aside0.mk (below_step (by repeat (first | (with_reducible first | exact HB.out | apply below_alloc | apply pw_below_drewN | apply below_drew1 | refine below_set ?_ GE579.out) | exact HB.out)) hb); clear BK579; clear HB; have BK579 := n0_; have HB := n1_; clear n0_ n1_; (try clear hb); (try clear hb2); (try clear hk); (try clear hi)))
    repeat (go_quiet (first | (go_at_call 31; (with_reducible refine (rushlightlaw25_few.calls k a0_0 a0_1 a0_2 a0_3 _ _ l0_4 _ _ l0_5 _ _ l1 true _ ?side1 ?side2 ?side3 ?side4 ?side5 ?side6 A6.out).mono ?_); (case side1 => repeat (first | exact (Kd.C_below HR0_4.out HB.out) | (with_reducible refine Kd.C_alloc ?_ _) | (with_reducible refine Kd.C_drewN ?_ _) | (with_reducible refine Kd.C_drew ?_))); (case side2 => exact HC0_4.out); (case side3 => repeat (first | exact (Kd.C_below HR0_5.out HB.out) | (with_reducible refine Kd.C_alloc ?_ _) | (with_reducible refine Kd.C_drewN ?_ _) | (with_reducible refine Kd.C_drew ?_))); (case side4 => exact HC0_5.out); (case side5 => repeat (first | exact (Kd.C_below HR1.out HB.out) | (with_reducible refine Kd.C_alloc ?_ _) | (with_reducible refine Kd.C_drewN ?_ _) | (with_reducible refine Kd.C_drew ?_))); (case side6 => exact HC1.out); rintro e w12 ⟨rfl, hb⟩; have n0_ := Aside0.mk (blk_below (g := gb579) (o := .cells #[.string a0_0, .bool a0_1, .int .i64 a0_2, .int .i64 a0_3, .slice A0_4 l0_4.length c0_4, .slice A0_5 l0_5.length c0_5] 31 (0, 0)) (by (with_reducible repeat (first | refine blk_drewN ?_ _ | refine blk_drew ?_ | refine blk_alloc ?_ _)); exact BK579.out) hb); have n1_ := Aside0.mk (below_step (by repeat (first | (with_reducible first | exact HB.out | apply below_alloc | apply pw_below_drewN | apply below_drew1 | refine below_set ?_ GE579.out) | exact HB.out)) hb); clear BK579; clear HB; have BK579 := n0_; have HB := n1_; clear n0_ n1_; (try clear hb); (try clear hb2); (try clear hk); (try clear hi))); try go_wp2_with (first | (go_at_call 31; (with_reducible refine (rushlightlaw25_few.calls k a0_0 a0_1 a0_2 a0_3 _ _ l0_4 _ _ l0_5 _ _ l1 true _ ?side1 ?side2 ?side3 ?side4 ?side5 ?side6 A6.out).mono ?_); (case side1 => repeat (first | exact (Kd.C_below HR0_4.out HB.out) | (with_reducible refine Kd.C_alloc ?_ _) | (with_reducible refine Kd.C_drewN ?_ _) | (with_reducible refine Kd.C_drew ?_))); (case side2 => exact HC0_4.out); (case side3 => repeat (first | exact (Kd.C_below HR0_5.out HB.out) | (with_reducible refine Kd.C_alloc ?_ _) | (with_reducible refine Kd.C_drewN ?_ _) | (with_reducible refine Kd.C_drew ?_))); (case side4 => exact HC0_5.out); (case side5 => repeat (first | exact (Kd.C_below HR1.out HB.out) | (with_reducible refine Kd.C_alloc ?_ _) | (with_reducible refine Kd.C_drewN ?_ _) | (with_reducible refine Kd.C_drew ?_))); (case side6 => exact HC1.out); rintro e w12 ⟨rfl, hb⟩; have n0_ := Aside0.mk (blk_below (g := gb579) (o := .cells #[.string a0_0, .bool a0_1, .int .i64 a0_2, .int .i64 a0_3, .slice A0_4 l0_4.length c0_4, .slice A0_5 l0_5.length c0_5] 31 (0, 0)) (by (with_reducible repeat (first | refine blk_drewN ?_ _ | refine blk_drew ?_ | refine blk_alloc ?_ _)); exact BK579.out) hb); have n1_ := Aside0.mk (below_step (by repeat (first | (with_reducible first | exact HB.out | apply below_alloc | apply pw_below_drewN | apply below_drew1 | refine below_set ?_ GE579.out) | exact HB.out)) hb); clear BK579; clear HB; have BK579 := n0_; have HB := n1_; clear n0_ n1_; (try clear hb); (try clear hb2); (try clear hk); (try clear hi))))
    go_meet
    case rel => exact ⟨_, (decide (a2 > 600)), (by first | rfl | (simp; done) | (simp [*]; done)), H', ⟨by first | omega | exact Nat.le_refl _⟩, ⟨by (with_reducible repeat (first | refine blk_drewN ?_ _ | refine blk_drew ?_ | refine blk_alloc ?_ _)); exact BK579.out⟩, ⟨by repeat (first | (with_reducible first | exact HB.out | apply below_alloc | apply pw_below_drewN | apply below_drew1 | refine below_set ?_ GE579.out) | exact HB.out)⟩⟩
  ·
   replace c7 := Bool.eq_false_iff.mpr c7
   subst c7
   have H1 : (rushlightlaw25_FrameApart.j0 k l1 a2 true a0_0 a0_1 a0_2 a0_3 l0_4 l0_5) = some r := by rw [if_neg (show ¬ (false = true) by decide)] at H; exact H
   clear H
   have H := H1
   clear H1
   have H' := Aside0.mk H
   clear H
   have hcz13_0 : w5.cell? ⟨gb579, 0, none⟩ = some (.string a0_0) := (blk_cell BK579.out 0).trans rfl
   have hcz13_1 : w5.cell? ⟨gb579, 1, none⟩ = some (.bool a0_1) := (blk_cell BK579.out 1).trans rfl
   have hcz13_2 : w5.cell? ⟨gb579, 2, none⟩ = some (.int .i64 a0_2) := (blk_cell BK579.out 2).trans rfl
   have hcz13_3 : w5.cell? ⟨gb579, 3, none⟩ = some (.int .i64 a0_3) := (blk_cell BK579.out 3).trans rfl
   have hcz13_4 : w5.cell? ⟨gb579, 4, none⟩ = some (.slice A0_4 l0_4.length c0_4) := (blk_cell BK579.out 4).trans rfl
   have hcz13_5 : w5.cell? ⟨gb579, 5, none⟩ = some (.slice A0_5 l0_5.length c0_5) := (blk_cell BK579.out 5).trans rfl
   have hfz13_0 := blk_frozen BK579.out 0
   have hfz13_1 := blk_frozen BK579.out 1
   have hfz13_2 := blk_frozen BK579.out 2
   have hfz13_3 := blk_frozen BK579.out 3
   have hfz13_4 := blk_frozen BK579.out 4
   have hfz13_5 := blk_frozen BK579.out 5
   go_wp2_with (first | (go_at_call 31; (with_reducible refine (rushlightlaw25_few.calls k a0_0 a0_1 a0_2 a0_3 _ _ l0_4 _ _ l0_5 _ _ l1 false _ ?side1 ?side2 ?side3 ?side4 ?side5 ?side6 A6.out).mono ?_); (case side1 => repeat (first | exact (Kd.C_below HR0_4.out HB.out) | (with_reducible refine Kd.C_alloc ?_ _) | (with_reducible refine Kd.C_drewN ?_ _) | (with_reducible refine Kd.C_drew ?_))); (case side2 => exact HC0_4.out); (case side3 => repeat (first | exact (Kd.C_below HR0_5.out HB.out) | (with_reducible refine Kd.C_alloc ?_ _) | (with_reducible refine Kd.C_drewN ?_ _) | (with_reducible refine Kd.C_drew ?_))); (case side4 => exact HC0_5.out); (case side5 => repeat (first | exact (Kd.C_below HR1.out HB.out) | (with_reducible refine Kd.C_alloc ?_ _) | (with_reducible refine Kd.C_drewN ?_ _) | (with_reducible refine Kd.C_drew ?_))); (case side6 => exact HC1.out); rintro e w14 ⟨rfl, hb⟩; have n0_ := Aside0.mk (blk_below (g := gb579) (o := .cells #[.string a0_0, .bool a0_1, .int .i64 a0_2, .int .i64 a0_3, .slice A0_4 l0_4.length c0_4, .slice A0_5 l0_5.length c0_5] 31 (0, 0)) (by (with_reducible repeat (first | refine blk_drewN ?_ _ | refine blk_drew ?_ | refine blk_alloc ?_ _)); exact BK579.out) hb); have n1_ := Aside0.mk (below_step (by repeat (first | (with_reducible first | exact HB.out | apply below_alloc | apply pw_below_drewN | apply below_drew1 | refine below_set ?_ GE579.out) | exact HB.out)) hb); clear BK579; clear HB; have BK579 := n0_; have HB := n1_; clear n0_ n1_; (try clear hb); (try clear hb2); (try clear hk); (try clear hi)))
   repeat (go_quiet (first | (go_at_call 31; (with_reducible refine (rushlightlaw25_few.calls k a0_0 a0_1 a0_2 a0_3 _ _ l0_4 _ _ l0_5 _ _ l1 false _ ?side1 ?side2 ?side3 ?side4 ?side5 ?side6 A6.out).mono ?_); (case side1 => repeat (first | exact (Kd.C_below HR0_4.out HB.out) | (with_reducible refine Kd.C_alloc ?_ _) | (with_reducible refine Kd.C_drewN ?_ _) | (with_reducible refine Kd.C_drew ?_))); (case side2 => exact HC0_4.out); (case side3 => repeat (first | exact (Kd.C_below HR0_5.out HB.out) | (with_reducible refine Kd.C_alloc ?_ _) | (with_reducible refine Kd.C_drewN ?_ _) | (with_reducible refine Kd.C_drew ?_))); (case side4 => exact HC0_5.out); (case side5 => repeat (first | exact (Kd.C_below HR1.out HB.out) | (with_reducible refine Kd.C_alloc ?_ _) | (with_reducible refine Kd.C_drewN ?_ _) | (with_reducible refine Kd.C_drew ?_))); (case side6 => exact HC1.out); rintro e w14 ⟨rfl, hb⟩; have n0_ := Aside0.mk (blk_below (g := gb579) (o := .cells #[.string a0_0, .bool a0_1, .int .i64 a0_2, .int .i64 a0_3, .slice A0_4 l0_4.length c0_4, .slice A0_5 l0_5.length c0_5] 31 (0, 0)) (by (with_reducible repeat (first | refine blk_drewN ?_ _ | refine blk_drew ?_ | refine blk_alloc ?_ _)); exact BK579.out) hb); have n1_ := Aside0.mk (below_step (by repeat (first | (with_reducible first | exact HB.out | apply below_alloc | apply pw_below_drewN | apply below_drew1 | refine below_set ?_ GE579.out) | exact HB.out)) hb); clear BK579; clear HB; have BK579 := n0_; have HB := n1_; clear n0_ n1_; (try clear hb); (try clear hb2); (try clear hk); (try clear hi))); try go_wp2_with (first | (go_at_call 31; (with_reducible refine (rushlightlaw25_few.calls k a0_0 a0_1 a0_2 a0_3 _ _ l0_4 _ _ l0_5 _ _ l1 false _ ?side1 ?side2 ?side3 ?side4 ?side5 ?side6 A6.out).mono ?_); (case side1 => repeat (first | exact (Kd.C_below HR0_4.out HB.out) | (with_reducible refine Kd.C_alloc ?_ _) | (with_reducible refine Kd.C_drewN ?_ _) | (with_reducible refine Kd.C_drew ?_))); (case side2 => exact HC0_4.out); (case side3 => repeat (first | exact (Kd.C_below HR0_5.out HB.out) | (with_reducible refine Kd.C_alloc ?_ _) | (with_reducible refine Kd.C_drewN ?_ _) | (with_reducible refine Kd.C_drew ?_))); (case side4 => exact HC0_5.out); (case side5 => repeat (first | exact (Kd.C_below HR1.out HB.out) | (with_reducible refine Kd.C_alloc ?_ _) | (with_reducible refine Kd.C_drewN ?_ _) | (with_reducible refine Kd.C_drew ?_))); (case side6 => exact HC1.out); rintro e w14 ⟨rfl, hb⟩; have n0_ := Aside0.mk (blk_below (g := gb579) (o := .cells #[.string a0_0, .bool a0_1, .int .i64 a0_2, .int .i64 a0_3, .slice A0_4 l0_4.length c0_4, .slice A0_5 l0_5.length c0_5] 31 (0, 0)) (by (with_reducible repeat (first | refine blk_drewN ?_ _ | refine blk_drew ?_ | refine blk_alloc ?_ _)); exact BK579.out) hb); have n1_ := Aside0.mk (below_step (by repeat (first | (with_reducible first | exact HB.out | apply below_alloc | apply pw_below_drewN | apply below_drew1 | refine below_set ?_ GE579.out) | exact HB.out)) hb); clear BK579; clear HB; have BK579 := n0_; have HB := n1_; clear n0_ n1_; (try clear hb); (try clear hb2); (try clear hk); (try clear hi))))
   go_meet
   case rel => exact ⟨_, (true), (by first | rfl | (simp; done) | (simp [*]; done)), H', ⟨by first | omega | exact Nat.le_refl _⟩, ⟨by (with_reducible repeat (first | refine blk_drewN ?_ _ | refine blk_drew ?_ | refine blk_alloc ?_ _)); exact BK579.out⟩, ⟨by repeat (first | (with_reducible first | exact HB.out | apply below_alloc | apply pw_below_drewN | apply below_drew1 | refine below_set ?_ GE579.out) | exact HB.out)⟩⟩
 case rest =>
  clear HC4
  try clear c1
  try clear p2
  try clear c7
  try clear c8
  try clear c8b0
  try clear c9
  try clear hcz11_0
  try clear hcz11_1
  try clear hcz11_2
  try clear hcz11_3
  try clear hcz11_4
  try clear hcz11_5
  try clear hcz13_0
  try clear hcz13_1
  try clear hcz13_2
  try clear hcz13_3
  try clear hcz13_4
  try clear hcz13_5
  try clear hcz9_0
  try clear hcz9_1
  try clear hcz9_2
  try clear hcz9_3
  try clear hcz9_4
  try clear hcz9_5
  try clear hfz11_0
  try clear hfz11_1
  try clear hfz11_2
  try clear hfz11_3
  try clear hfz11_4
  try clear hfz11_5
  try clear hfz13_0
  try clear hfz13_1
  try clear hfz13_2
  try clear hfz13_3
  try clear hfz13_4
  try clear hfz13_5
  try clear hfz9_0
  try clear hfz9_1
  try clear hfz9_2
  try clear hfz9_3
  try clear hfz9_4
  try clear hfz9_5
  obtain ⟨kq, x28_3, rfl, HA, HJ3, BK579, HB⟩ := hcut
  cases kq with
  | zero => exact absurd HA.out (by simp [rushlightlaw25_FrameApart.j0])
  | succ kj3 =>
   have H := HA.out
   clear HA
   simp only [rushlightlaw25_FrameApart.j0] at H
   by_cases c15 : x28_3 = true
   ·
    subst c15
    have H1 : ((rushlightlaw25_awake.f kj3).bind fun t581 => (some t581)) = some r := by rw [if_pos rfl] at H; exact H
    clear H
    have H := H1
    clear H1
    replace H := Option.bind_eq_some_iff.mp H
    obtain ⟨t581, A160, H⟩ := H
    replace H : (some t581) = some r := H
    have A16 := Aside0.mk A160
    clear A160
    obtain rfl := Option.some.inj H
    go_wp2_with (first | (go_at_call 32; (with_reducible refine (rushlightlaw25_awake.calls kj3  t581 _ A16.out).mono ?_); rintro e w17 ⟨rfl, hb⟩; have n0_ := Aside0.mk (blk_below (g := gb579) (o := .cells #[.string a0_0, .bool a0_1, .int .i64 a0_2, .int .i64 a0_3, .slice A0_4 l0_4.length c0_4, .slice A0_5 l0_5.length c0_5] 31 (0, 0)) (by (with_reducible repeat (first | refine blk_drewN ?_ _ | refine blk_drew ?_ | refine blk_alloc ?_ _)); exact BK579.out) hb); have n1_ := Aside0.mk (below_step (by repeat (first | (with_reducible first | exact HB.out | apply below_alloc | apply pw_below_drewN | apply below_drew1 | refine below_set ?_ GE579.out) | exact HB.out)) hb); clear BK579; clear HB; have BK579 := n0_; have HB := n1_; clear n0_ n1_; (try clear hb); (try clear hb2); (try clear hk); (try clear hi)))
    repeat (go_quiet (first | (go_at_call 32; (with_reducible refine (rushlightlaw25_awake.calls kj3  t581 _ A16.out).mono ?_); rintro e w17 ⟨rfl, hb⟩; have n0_ := Aside0.mk (blk_below (g := gb579) (o := .cells #[.string a0_0, .bool a0_1, .int .i64 a0_2, .int .i64 a0_3, .slice A0_4 l0_4.length c0_4, .slice A0_5 l0_5.length c0_5] 31 (0, 0)) (by (with_reducible repeat (first | refine blk_drewN ?_ _ | refine blk_drew ?_ | refine blk_alloc ?_ _)); exact BK579.out) hb); have n1_ := Aside0.mk (below_step (by repeat (first | (with_reducible first | exact HB.out | apply below_alloc | apply pw_below_drewN | apply below_drew1 | refine below_set ?_ GE579.out) | exact HB.out)) hb); clear BK579; clear HB; have BK579 := n0_; have HB := n1_; clear n0_ n1_; (try clear hb); (try clear hb2); (try clear hk); (try clear hi))); try go_wp2_with (first | (go_at_call 32; (with_reducible refine (rushlightlaw25_awake.calls kj3  t581 _ A16.out).mono ?_); rintro e w17 ⟨rfl, hb⟩; have n0_ := Aside0.mk (blk_below (g := gb579) (o := .cells #[.string a0_0, .bool a0_1, .int .i64 a0_2, .int .i64 a0_3, .slice A0_4 l0_4.length c0_4, .slice A0_5 l0_5.length c0_5] 31 (0, 0)) (by (with_reducible repeat (first | refine blk_drewN ?_ _ | refine blk_drew ?_ | refine blk_alloc ?_ _)); exact BK579.out) hb); have n1_ := Aside0.mk (below_step (by repeat (first | (with_reducible first | exact HB.out | apply below_alloc | apply pw_below_drewN | apply below_drew1 | refine below_set ?_ GE579.out) | exact HB.out)) hb); clear BK579; clear HB; have BK579 := n0_; have HB := n1_; clear n0_ n1_; (try clear hb); (try clear hb2); (try clear hk); (try clear hi))))
    go_ret
    exact ⟨by first | rfl | (simp [errW_none, errW_some] <;> rfl) | (simp [*, errW_none, errW_some] <;> rfl), by repeat (first | (with_reducible first | exact HB.out | apply below_alloc | apply pw_below_drewN | apply below_drew1 | refine below_set ?_ GE579.out) | exact HB.out)⟩
   ·
    replace c15 := Bool.eq_false_iff.mpr c15
    subst c15
    have H1 : ((frame_Lay.f kj3 a0_0 a0_1 a0_2 a0_3 l0_4 l0_5 l1 a2).bind fun bt582 => (if bt582.2.2.2.2 = 0 then (if bt582.1 < 0 then (rushlightlaw25_FrameApart.j1 kj3 a2 true a0_0 a0_1 a0_2 a0_3 l0_4 l0_5 bt582.1 bt582.2.1 bt582.2.2.1 bt582.2.2.2.1) else (if bt582.1 > 2000 then (rushlightlaw25_FrameApart.j1 kj3 a2 true a0_0 a0_1 a0_2 a0_3 l0_4 l0_5 bt582.1 bt582.2.1 bt582.2.2.1 bt582.2.2.2.1) else (rushlightlaw25_FrameApart.j1 kj3 a2 ((bt582.2.2.2.1.length : Int) != (l0_4.length : Int)) a0_0 a0_1 a0_2 a0_3 l0_4 l0_5 bt582.1 bt582.2.1 bt582.2.2.1 bt582.2.2.2.1))) else ((rushlightlaw25_awake.f kj3).bind fun t592 => (some t592)))) = some r := by rw [if_neg (show ¬ (false = true) by decide)] at H; exact H
    clear H
    have H := H1
    clear H1
    replace H := Option.bind_eq_some_iff.mp H
    obtain ⟨⟨t582, t583, t586, t587, t590⟩, A180, H⟩ := H
    replace H : (if t590 = 0 then (if t582 < 0 then (rushlightlaw25_FrameApart.j1 kj3 a2 true a0_0 a0_1 a0_2 a0_3 l0_4 l0_5 t582 t583 t586 t587) else (if t582 > 2000 then (rushlightlaw25_FrameApart.j1 kj3 a2 true a0_0 a0_1 a0_2 a0_3 l0_4 l0_5 t582 t583 t586 t587) else (rushlightlaw25_FrameApart.j1 kj3 a2 ((t587.length : Int) != (l0_4.length : Int)) a0_0 a0_1 a0_2 a0_3 l0_4 l0_5 t582 t583 t586 t587))) else ((rushlightlaw25_awake.f kj3).bind fun t592 => (some t592))) = some r := H
    have A18 := Aside0.mk A180
    clear A180
    by_cases c19 : t590 = 0
    ·
     rw [if_pos c19] at H
     have c19b0 : (t590 == 0) = true := beq_iff_eq.mpr c19
     have c19b1 : (t590 != 0) = false := bne_eq_false_iff_eq.mpr c19
     clear c19
     have HC20 := Aside0.mk H
     clear H
     have hcz21_0 : wc.cell? ⟨gb579, 0, none⟩ = some (.string a0_0) := (blk_cell BK579.out 0).trans rfl
     have hcz21_1 : wc.cell? ⟨gb579, 1, none⟩ = some (.bool a0_1) := (blk_cell BK579.out 1).trans rfl
     have hcz21_2 : wc.cell? ⟨gb579, 2, none⟩ = some (.int .i64 a0_2) := (blk_cell BK579.out 2).trans rfl
     have hcz21_3 : wc.cell? ⟨gb579, 3, none⟩ = some (.int .i64 a0_3) := (blk_cell BK579.out 3).trans rfl
     have hcz21_4 : wc.cell? ⟨gb579, 4, none⟩ = some (.slice A0_4 l0_4.length c0_4) := (blk_cell BK579.out 4).trans rfl
     have hcz21_5 : wc.cell? ⟨gb579, 5, none⟩ = some (.slice A0_5 l0_5.length c0_5) := (blk_cell BK579.out 5).trans rfl
     have hfz21_0 := blk_frozen BK579.out 0
     have hfz21_1 := blk_frozen BK579.out 1
     have hfz21_2 := blk_frozen BK579.out 2
     have hfz21_3 := blk_frozen BK579.out 3
     have hfz21_4 := blk_frozen BK579.out 4
     have hfz21_5 := blk_frozen BK579.out 5
     go_upto_region 6 with (first | (go_at_call 33; (with_reducible refine (frame_Lay.calls kj3 a0_0 a0_1 a0_2 a0_3 _ _ l0_4 _ _ l0_5 _ _ l1 a2 t582 t583 t586 t587 t590 _ ?side1 ?side2 ?side3 ?side4 ?side5 ?side6 A18.out).mono ?_); (case side1 => repeat (first | exact (Kd.C_below HR0_4.out HB.out) | (with_reducible refine Kd.C_alloc ?_ _) | (with_reducible refine Kd.C_drewN ?_ _) | (with_reducible refine Kd.C_drew ?_))); (case side2 => exact HC0_4.out); (case side3 => repeat (first | exact (Kd.C_below HR0_5.out HB.out) | (with_reducible refine Kd.C_alloc ?_ _) | (with_reducible refine Kd.C_drewN ?_ _) | (with_reducible refine Kd.C_drew ?_))); (case side4 => exact HC0_5.out); (case side5 => repeat (first | exact (Kd.C_below HR1.out HB.out) | (with_reducible refine Kd.C_alloc ?_ _) | (with_reducible refine Kd.C_drewN ?_ _) | (with_reducible refine Kd.C_drew ?_))); (case side6 => exact HC1.out); rintro e w22 ⟨v584, v588, rfl, ho0, ho1, hb⟩; have n0_ := Aside0.mk (Kd.R_lower ho0 (below_size (by repeat (first | (with_reducible first | exact HB.out | apply below_alloc | apply pw_below_drewN | apply below_drew1 | refine below_set ?_ GE579.out) | exact HB.out)))); have n1_ := Aside0.mk (Kd.R_lower ho1 (below_size (by repeat (first | (with_reducible first | exact HB.out | apply below_alloc | apply pw_below_drewN | apply below_drew1 | refine below_set ?_ GE579.out) | exact HB.out)))); have n2_ := Aside0.mk (blk_below (g := gb579) (o := .cells #[.string a0_0, .bool a0_1, .int .i64 a0_2, .int .i64 a0_3, .slice A0_4 l0_4.length c0_4, .slice A0_5 l0_5.length c0_5] 31 (0, 0)) (by (with_reducible repeat (first | refine blk_drewN ?_ _ | refine blk_drew ?_ | refine blk_alloc ?_ _)); exact BK579.out) hb); have n3_ := Aside0.mk (below_step (by repeat (first | (with_reducible first | exact HB.out | apply below_alloc | apply pw_below_drewN | apply below_drew1 | refine below_set ?_ GE579.out) | exact HB.out)) hb); clear BK579; clear HB; have HO585 := n0_; have HO589 := n1_; have BK579 := n2_; have HB := n3_; clear n0_ n1_ n2_ n3_; (try clear hb); (try clear hb2); (try clear hk); (try clear hi); (try clear ho0); (try clear ho1)) | ((with_reducible refine gate_dst (N := 7) rfl ?_); (try (refine gate_guard (by rfl) ?_; dsimp only)); refine box_event ?hg (N := 7) ?hd (cs := #[.int .i64 0, .slice none 0 0, .int .i64 0, .slice none 0 0]) (t := 67) ?hr ?_; (case hd => rfl); (case hg => rfl); (case hr => first | (go_simp; done) | (go_simp; rfl)); intro gb591 hg w23 hbox hb; have n0_ := Aside0.mk (Kd.R_below (by (with_reducible repeat (first | apply Kd.R_alloc | apply Kd.R_drewN | apply Kd.R_drew)); exact HO585.out) hb); have n1_ := Aside0.mk (Kd.R_below (by (with_reducible repeat (first | apply Kd.R_alloc | apply Kd.R_drewN | apply Kd.R_drew)); exact HO589.out) hb); have n2_ := Aside0.mk (blk_below (g := gb579) (o := .cells #[.string a0_0, .bool a0_1, .int .i64 a0_2, .int .i64 a0_3, .slice A0_4 l0_4.length c0_4, .slice A0_5 l0_5.length c0_5] 31 (0, 0)) (by (with_reducible repeat (first | refine blk_drewN ?_ _ | refine blk_drew ?_ | refine blk_alloc ?_ _)); exact BK579.out) hb); have n3_ := Aside0.mk (below_step (by repeat (first | (with_reducible first | exact HB.out | apply below_alloc | apply pw_below_drewN | apply below_drew1 | refine below_set ?_ GE579.out) | exact HB.out)) hb); have n4_ := Aside0.mk (hbox); have n5_ := Aside0.mk ((by rw [hg]; exact (below_size (by repeat (first | (with_reducible first | exact HB.out | apply below_alloc | apply pw_below_drewN | apply below_drew1 | refine below_set ?_ GE579.out) | exact HB.out))) : w.heap.size ≤ gb591)); have n6_ := Aside0.mk ((by rw [hg]; exact (below_size (by repeat (first | (with_reducible first | exact HB.out | apply below_alloc | apply pw_below_drewN | apply below_drew1 | refine below_set ?_ GE579.out) | exact HB.out))) : w.heap.size ≤ gb591)); have n7_ := Aside0.mk ((by rw [hg]; exact Nat.ne_of_lt (blk_lt (g := gb579) (o := .cells #[.string a0_0, .bool a0_1, .int .i64 a0_2, .int .i64 a0_3, .slice A0_4 l0_4.length c0_4, .slice A0_5 l0_5.length c0_5] 31 (0, 0)) (by (with_reducible repeat (first | refine blk_drewN ?_ _ | refine blk_drew ?_ | refine blk_alloc ?_ _)); exact BK579.out)) : gb579 ≠ gb591)); have n8_ := Aside0.mk ((by rw [hg]; exact Nat.ne_of_gt (blk_lt (g := gb579) (o := .cells #[.string a0_0, .bool a0_1, .int .i64 a0_2, .int .i64 a0_3, .slice A0_4 l0_4.length c0_4, .slice A0_5 l0_5.length c0_5] 31 (0, 0)) (by (with_reducible repeat (first | refine blk_drewN ?_ _ | refine blk_drew ?_ | refine blk_alloc ?_ _)); exact BK579.out)) : gb591 ≠ gb579)); clear HO585; clear HO589; clear BK579; clear HB; have HO585 := n0_; have HO589 := n1_; have BK579 := n2_; have HB := n3_; have BK591 := n4_; have GW591 := n5_; have GE591 := n6_; have NB579_591 := n7_; have NB591_579 := n8_; clear n0_ n1_ n2_ n3_ n4_ n5_ n6_ n7_ n8_; clear hb hbox hg; have hnb24 := NB591_579.out; have hnc24 := NB579_591.out; have hcz25_0 : w23.cell? ⟨gb591, 0, none⟩ = some (.int .i64 0) := (blk_cell BK591.out 0).trans rfl; have hcz25_1 : w23.cell? ⟨gb591, 1, none⟩ = some (.slice none 0 0) := (blk_cell BK591.out 1).trans rfl; have hcz25_2 : w23.cell? ⟨gb591, 2, none⟩ = some (.int .i64 0) := (blk_cell BK591.out 2).trans rfl; have hcz25_3 : w23.cell? ⟨gb591, 3, none⟩ = some (.slice none 0 0) := (blk_cell BK591.out 3).trans rfl; have hfz25_0 := blk_frozen BK591.out 0; have hfz25_1 := blk_frozen BK591.out 1; have hfz25_2 := blk_frozen BK591.out 2; have hfz25_3 := blk_frozen BK591.out 3; obtain ⟨Ao26, co26, eo26⟩ := Kd.R_slice HO585.out; subst eo26; obtain ⟨Ao27, co27, eo27⟩ := Kd.R_slice HO589.out; subst eo27))
     (try simp only [Act.put, List.setIfInBounds_toArray, List.set_cons_zero, List.set_cons_succ])
     go_cut [56] (fun v56 wc => ∃ (kq : Nat) (x56_19 : Bool), v56 = .bool x56_19 ∧ Aside0 (rushlightlaw25_FrameApart.j1 kq a2 x56_19 a0_0 a0_1 a0_2 a0_3 l0_4 l0_5 t582 t583 t586 t587 = some r) ∧ Aside0 (kq ≤ kj3) ∧ Aside0 (Kd.R (Kd.int .i64) 3 wc w.heap.size (fun k_ => some k_ ≠ ((.slice Ao27 t587.length co27) : Value).ownBlock) (.slice Ao26 t583.length co26) t583) ∧ Aside0 (Kd.R (Kd.int .i64) 3 wc w.heap.size (fun k_ => some k_ ≠ ((.slice Ao26 t583.length co26) : Value).ownBlock) (.slice Ao27 t587.length co27) t587) ∧ Aside0 (wc.heap[gb579]? = some (.cells #[.string a0_0, .bool a0_1, .int .i64 a0_2, .int .i64 a0_3, (.slice A0_4 l0_4.length c0_4), (.slice A0_5 l0_5.length c0_5)] 31 (0, 0))) ∧ Aside0 (wc.heap[gb591]? = some (.cells #[.int .i64 t582, (.slice Ao26 t583.length co26), .int .i64 t586, (.slice Ao27 t587.length co27)] 67 (0, 0))) ∧ Aside0 (Below w.heap.size w wc))
     case first =>
      have H := HC20.out
      clear HC20
      by_cases c28 : t582 < 0
      ·
       rw [if_pos c28] at H
       have c28b0 : decide (t582 < 0) = true := decide_eq_true c28
       clear c28
       (first | rw [c28b0] | (simp only [i64_w, i32_w]; rw [c28b0]) | skip)
       have H' := Aside0.mk H
       clear H
       have hnb29 := NB591_579.out
       have hnc29 := NB579_591.out
       have hcz30_0 : w23.cell? ⟨gb591, 0, none⟩ = some (.int .i64 0) := (blk_cell BK591.out 0).trans rfl
       have hcz30_1 : w23.cell? ⟨gb591, 1, none⟩ = some (.slice none 0 0) := (blk_cell BK591.out 1).trans rfl
       have hcz30_2 : w23.cell? ⟨gb591, 2, none⟩ = some (.int .i64 0) := (blk_cell BK591.out 2).trans rfl
       have hcz30_3 : w23.cell? ⟨gb591, 3, none⟩ = some (.slice none 0 0) := (blk_cell BK591.out 3).trans rfl
       have hfz30_0 := blk_frozen BK591.out 0
       have hfz30_1 := blk_frozen BK591.out 1
       have hfz30_2 := blk_frozen BK591.out 2
       have hfz30_3 := blk_frozen BK591.out 3
       go_wp2
       repeat (go_quiet (fail); try go_wp2)
       go_meet
       case rel => exact ⟨_, (true), (by first | rfl | (simp; done) | (simp [*]; done)), H', ⟨by have := HJ3.out; first | omega | exact Nat.le_refl _⟩, ⟨by (with_reducible repeat (first | apply Kd.R_alloc | apply Kd.R_drewN | apply Kd.R_drew)); exact Kd.R_mono (Kd.R_far (p := ⟨gb591, 3, none⟩) (Kd.R_far (p := ⟨gb591, 2, none⟩) (Kd.R_far (p := ⟨gb591, 1, none⟩) (Kd.R_far (p := ⟨gb591, 0, none⟩) (Kd.R_types HO585.out BK591.out (by decide)) (fun _ hk => hk.2) (.int .i64 t582)) (fun _ hk => hk.2) (.slice Ao26 t583.length co26)) (fun _ hk => hk.2) (.int .i64 t586)) (fun _ hk => hk.2) (.slice Ao27 t587.length co27)) (fun _ hk => hk.1)⟩, ⟨by (with_reducible repeat (first | apply Kd.R_alloc | apply Kd.R_drewN | apply Kd.R_drew)); exact Kd.R_mono (Kd.R_far (p := ⟨gb591, 3, none⟩) (Kd.R_far (p := ⟨gb591, 2, none⟩) (Kd.R_far (p := ⟨gb591, 1, none⟩) (Kd.R_far (p := ⟨gb591, 0, none⟩) (Kd.R_types HO589.out BK591.out (by decide)) (fun _ hk => hk.2) (.int .i64 t582)) (fun _ hk => hk.2) (.slice Ao26 t583.length co26)) (fun _ hk => hk.2) (.int .i64 t586)) (fun _ hk => hk.2) (.slice Ao27 t587.length co27)) (fun _ hk => hk.1)⟩, ⟨by (with_reducible repeat (first | refine blk_drewN ?_ _ | refine blk_drew ?_ | refine blk_alloc ?_ _)); refine blk_far ?_ NB579_591.out _; (with_reducible repeat (first | refine blk_drewN ?_ _ | refine blk_drew ?_ | refine blk_alloc ?_ _)); refine blk_far ?_ NB579_591.out _; (with_reducible repeat (first | refine blk_drewN ?_ _ | refine blk_drew ?_ | refine blk_alloc ?_ _)); refine blk_far ?_ NB579_591.out _; (with_reducible repeat (first | refine blk_drewN ?_ _ | refine blk_drew ?_ | refine blk_alloc ?_ _)); refine blk_far ?_ NB579_591.out _; (with_reducible repeat (first | refine blk_drewN ?_ _ | refine blk_drew ?_ | refine blk_alloc ?_ _)); exact BK579.out⟩, ⟨by (with_reducible repeat (first | refine blk_drewN ?_ _ | refine blk_drew ?_ | refine blk_alloc ?_ _)); refine blk_put (cs := #[.int .i64 t582, .slice Ao26 t583.length co26, .int .i64 t586, .slice none 0 0]) ?_ 3 _ rfl; (with_reducible repeat (first | refine blk_drewN ?_ _ | refine blk_drew ?_ | refine blk_alloc ?_ _)); refine blk_put (cs := #[.int .i64 t582, .slice Ao26 t583.length co26, .int .i64 0, .slice none 0 0]) ?_ 2 _ rfl; (with_reducible repeat (first | refine blk_drewN ?_ _ | refine blk_drew ?_ | refine blk_alloc ?_ _)); refine blk_put (cs := #[.int .i64 t582, .slice none 0 0, .int .i64 0, .slice none 0 0]) ?_ 1 _ rfl; (with_reducible repeat (first | refine blk_drewN ?_ _ | refine blk_drew ?_ | refine blk_alloc ?_ _)); refine blk_put (cs := #[.int .i64 0, .slice none 0 0, .int .i64 0, .slice none 0 0]) ?_ 0 _ rfl; (with_reducible repeat (first | refine blk_drewN ?_ _ | refine blk_drew ?_ | refine blk_alloc ?_ _)); exact BK591.out⟩, ⟨by repeat (first | (with_reducible first | exact HB.out | apply below_alloc | apply pw_below_drewN | apply below_drew1 | refine below_set ?_ GE579.out | refine below_set ?_ GE591.out) | exact HB.out)⟩⟩
      ·
       rw [if_neg c28] at H
       have c28b0 : decide (t582 < 0) = false := decide_eq_false c28
       clear c28
       (first | rw [c28b0] | (simp only [i64_w, i32_w]; rw [c28b0]) | skip)
       by_cases c31 : t582 > 2000
       ·
        rw [if_pos c31] at H
        have c31b0 : decide (2000 < t582) = true := decide_eq_true c31
        clear c31
        have H' := Aside0.mk H
        clear H
        have hnb32 := NB591_579.out
        have hnc32 := NB579_591.out
        have hcz33_0 : w23.cell? ⟨gb591, 0, none⟩ = some (.int .i64 0) := (blk_cell BK591.out 0).trans rfl
        have hcz33_1 : w23.cell? ⟨gb591, 1, none⟩ = some (.slice none 0 0) := (blk_cell BK591.out 1).trans rfl
        have hcz33_2 : w23.cell? ⟨gb591, 2, none⟩ = some (.int .i64 0) := (blk_cell BK591.out 2).trans rfl
        have hcz33_3 : w23.cell? ⟨gb591, 3, none⟩ = some (.slice none 0 0) := (blk_cell BK591.out 3).trans rfl
        have hfz33_0 := blk_frozen BK591.out 0
        have hfz33_1 := blk_frozen BK591.out 1
        have hfz33_2 := blk_frozen BK591.out 2
        have hfz33_3 := blk_frozen BK591.out 3
        go_wp2
        repeat (go_quiet (fail); try go_wp2)
        go_meet
        case rel => exact ⟨_, (true), (by first | rfl | (simp; done) | (simp [*]; done)), H', ⟨by have := HJ3.out; first | omega | exact Nat.le_refl _⟩, ⟨by (with_reducible repeat (first | apply Kd.R_alloc | apply Kd.R_drewN | apply Kd.R_drew)); exact Kd.R_mono (Kd.R_far (p := ⟨gb591, 3, none⟩) (Kd.R_far (p := ⟨gb591, 2, none⟩) (Kd.R_far (p := ⟨gb591, 1, none⟩) (Kd.R_far (p := ⟨gb591, 0, none⟩) (Kd.R_types HO585.out BK591.out (by decide)) (fun _ hk => hk.2) (.int .i64 t582)) (fun _ hk => hk.2) (.slice Ao26 t583.length co26)) (fun _ hk => hk.2) (.int .i64 t586)) (fun _ hk => hk.2) (.slice Ao27 t587.length co27)) (fun _ hk => hk.1)⟩, ⟨by (with_reducible repeat (first | apply Kd.R_alloc | apply Kd.R_drewN | apply Kd.R_drew)); exact Kd.R_mono (Kd.R_far (p := ⟨gb591, 3, none⟩) (Kd.R_far (p := ⟨gb591, 2, none⟩) (Kd.R_far (p := ⟨gb591, 1, none⟩) (Kd.R_far (p := ⟨gb591, 0, none⟩) (Kd.R_types HO589.out BK591.out (by decide)) (fun _ hk => hk.2) (.int .i64 t582)) (fun _ hk => hk.2) (.slice Ao26 t583.length co26)) (fun _ hk => hk.2) (.int .i64 t586)) (fun _ hk => hk.2) (.slice Ao27 t587.length co27)) (fun _ hk => hk.1)⟩, ⟨by (with_reducible repeat (first | refine blk_drewN ?_ _ | refine blk_drew ?_ | refine blk_alloc ?_ _)); refine blk_far ?_ NB579_591.out _; (with_reducible repeat (first | refine blk_drewN ?_ _ | refine blk_drew ?_ | refine blk_alloc ?_ _)); refine blk_far ?_ NB579_591.out _; (with_reducible repeat (first | refine blk_drewN ?_ _ | refine blk_drew ?_ | refine blk_alloc ?_ _)); refine blk_far ?_ NB579_591.out _; (with_reducible repeat (first | refine blk_drewN ?_ _ | refine blk_drew ?_ | refine blk_alloc ?_ _)); refine blk_far ?_ NB579_591.out _; (with_reducible repeat (first | refine blk_drewN ?_ _ | refine blk_drew ?_ | refine blk_alloc ?_ _)); exact BK579.out⟩, ⟨by (with_reducible repeat (first | refine blk_drewN ?_ _ | refine blk_drew ?_ | refine blk_alloc ?_ _)); refine blk_put (cs := #[.int .i64 t582, .slice Ao26 t583.length co26, .int .i64 t586, .slice none 0 0]) ?_ 3 _ rfl; (with_reducible repeat (first | refine blk_drewN ?_ _ | refine blk_drew ?_ | refine blk_alloc ?_ _)); refine blk_put (cs := #[.int .i64 t582, .slice Ao26 t583.length co26, .int .i64 0, .slice none 0 0]) ?_ 2 _ rfl; (with_reducible repeat (first | refine blk_drewN ?_ _ | refine blk_drew ?_ | refine blk_alloc ?_ _)); refine blk_put (cs := #[.int .i64 t582, .slice none 0 0, .int .i64 0, .slice none 0 0]) ?_ 1 _ rfl; (with_reducible repeat (first | refine blk_drewN ?_ _ | refine blk_drew ?_ | refine blk_alloc ?_ _)); refine blk_put (cs := #[.int .i64 0, .slice none 0 0, .int .i64 0, .slice none 0 0]) ?_ 0 _ rfl; (with_reducible repeat (first | refine blk_drewN ?_ _ | refine blk_drew ?_ | refine blk_alloc ?_ _)); exact BK591.out⟩, ⟨by repeat (first | (with_reducible first | exact HB.out | apply below_alloc | apply pw_below_drewN | apply below_drew1 | refine below_set ?_ GE579.out | refine below_set ?_ GE591.out) | exact HB.out)⟩⟩
       ·
        rw [if_neg c31] at H
        have c31b0 : decide (2000 < t582) = false := decide_eq_false c31
        clear c31
        have H' := Aside0.mk H
        clear H
        have hnb34 := NB591_579.out
        have hnc34 := NB579_591.out
        have hcz35_0 : w23.cell? ⟨gb591, 0, none⟩ = some (.int .i64 0) := (blk_cell BK591.out 0).trans rfl
        have hcz35_1 : w23.cell? ⟨gb591, 1, none⟩ = some (.slice none 0 0) := (blk_cell BK591.out 1).trans rfl
        have hcz35_2 : w23.cell? ⟨gb591, 2, none⟩ = some (.int .i64 0) := (blk_cell BK591.out 2).trans rfl
        have hcz35_3 : w23.cell? ⟨gb591, 3, none⟩ = some (.slice none 0 0) := (blk_cell BK591.out 3).trans rfl
        have hfz35_0 := blk_frozen BK591.out 0
        have hfz35_1 := blk_frozen BK591.out 1
        have hfz35_2 := blk_frozen BK591.out 2
        have hfz35_3 := blk_frozen BK591.out 3
        have hcz36_0 : w23.cell? ⟨gb579, 0, none⟩ = some (.string a0_0) := (blk_cell BK579.out 0).trans rfl
        have hcz36_1 : w23.cell? ⟨gb579, 1, none⟩ = some (.bool a0_1) := (blk_cell BK579.out 1).trans rfl
        have hcz36_2 : w23.cell? ⟨gb579, 2, none⟩ = some (.int .i64 a0_2) := (blk_cell BK579.out 2).trans rfl
        have hcz36_3 : w23.cell? ⟨gb579, 3, none⟩ = some (.int .i64 a0_3) := (blk_cell BK579.out 3).trans rfl
        have hcz36_4 : w23.cell? ⟨gb579, 4, none⟩ = some (.slice A0_4 l0_4.length c0_4) := (blk_cell BK579.out 4).trans rfl
        have hcz36_5 : w23.cell? ⟨gb579, 5, none⟩ = some (.slice A0_5 l0_5.length c0_5) := (blk_cell BK579.out 5).trans rfl
        have hfz36_0 := blk_frozen BK579.out 0
        have hfz36_1 := blk_frozen BK579.out 1
        have hfz36_2 := blk_frozen BK579.out 2
        have hfz36_3 := blk_frozen BK579.out 3
        have hfz36_4 := blk_frozen BK579.out 4
        have hfz36_5 := blk_frozen BK579.out 5
        go_wp2
        repeat (go_quiet (fail); try go_wp2)
        go_meet
        case rel => exact ⟨_, (((t587.length : Int) != (l0_4.length : Int))), (by first | rfl | (simp; done) | (simp [*]; done)), H', ⟨by have := HJ3.out; first | omega | exact Nat.le_refl _⟩, ⟨by (with_reducible repeat (first | apply Kd.R_alloc | apply Kd.R_drewN | apply Kd.R_drew)); exact Kd.R_mono (Kd.R_far (p := ⟨gb591, 3, none⟩) (Kd.R_far (p := ⟨gb591, 2, none⟩) (Kd.R_far (p := ⟨gb591, 1, none⟩) (Kd.R_far (p := ⟨gb591, 0, none⟩) (Kd.R_types HO585.out BK591.out (by decide)) (fun _ hk => hk.2) (.int .i64 t582)) (fun _ hk => hk.2) (.slice Ao26 t583.length co26)) (fun _ hk => hk.2) (.int .i64 t586)) (fun _ hk => hk.2) (.slice Ao27 t587.length co27)) (fun _ hk => hk.1)⟩, ⟨by (with_reducible repeat (first | apply Kd.R_alloc | apply Kd.R_drewN | apply Kd.R_drew)); exact Kd.R_mono (Kd.R_far (p := ⟨gb591, 3, none⟩) (Kd.R_far (p := ⟨gb591, 2, none⟩) (Kd.R_far (p := ⟨gb591, 1, none⟩) (Kd.R_far (p := ⟨gb591, 0, none⟩) (Kd.R_types HO589.out BK591.out (by decide)) (fun _ hk => hk.2) (.int .i64 t582)) (fun _ hk => hk.2) (.slice Ao26 t583.length co26)) (fun _ hk => hk.2) (.int .i64 t586)) (fun _ hk => hk.2) (.slice Ao27 t587.length co27)) (fun _ hk => hk.1)⟩, ⟨by (with_reducible repeat (first | refine blk_drewN ?_ _ | refine blk_drew ?_ | refine blk_alloc ?_ _)); refine blk_far ?_ NB579_591.out _; (with_reducible repeat (first | refine blk_drewN ?_ _ | refine blk_drew ?_ | refine blk_alloc ?_ _)); refine blk_far ?_ NB579_591.out _; (with_reducible repeat (first | refine blk_drewN ?_ _ | refine blk_drew ?_ | refine blk_alloc ?_ _)); refine blk_far ?_ NB579_591.out _; (with_reducible repeat (first | refine blk_drewN ?_ _ | refine blk_drew ?_ | refine blk_alloc ?_ _)); refine blk_far ?_ NB579_591.out _; (with_reducible repeat (first | refine blk_drewN ?_ _ | refine blk_drew ?_ | refine blk_alloc ?_ _)); exact BK579.out⟩, ⟨by (with_reducible repeat (first | refine blk_drewN ?_ _ | refine blk_drew ?_ | refine blk_alloc ?_ _)); refine blk_put (cs := #[.int .i64 t582, .slice Ao26 t583.length co26, .int .i64 t586, .slice none 0 0]) ?_ 3 _ rfl; (with_reducible repeat (first | refine blk_drewN ?_ _ | refine blk_drew ?_ | refine blk_alloc ?_ _)); refine blk_put (cs := #[.int .i64 t582, .slice Ao26 t583.length co26, .int .i64 0, .slice none 0 0]) ?_ 2 _ rfl; (with_reducible repeat (first | refine blk_drewN ?_ _ | refine blk_drew ?_ | refine blk_alloc ?_ _)); refine blk_put (cs := #[.int .i64 t582, .slice none 0 0, .int .i64 0, .slice none 0 0]) ?_ 1 _ rfl; (with_reducible repeat (first | refine blk_drewN ?_ _ | refine blk_drew ?_ | refine blk_alloc ?_ _)); refine blk_put (cs := #[.int .i64 0, .slice none 0 0, .int .i64 0, .slice none 0 0]) ?_ 0 _ rfl; (with_reducible repeat (first | refine blk_drewN ?_ _ | refine blk_drew ?_ | refine blk_alloc ?_ _)); exact BK591.out⟩, ⟨by repeat (first | (with_reducible first | exact HB.out | apply below_alloc | apply pw_below_drewN | apply below_drew1 | refine below_set ?_ GE579.out | refine below_set ?_ GE591.out) | exact HB.out)⟩⟩
     case rest =>
      clear HC20
      try clear c1
      try clear c2
      try clear p2
      try clear c3
      try clear c7
      try clear c8
      try clear c8b0
      try clear c9
      try clear c15
      try clear c19
      try clear c19b0
      try clear c19b1
      try clear c24
      try clear c28
      try clear c28b0
      try clear c29
      try clear c31
      try clear c31b0
      try clear c32
      try clear c34
      try clear hcz11_0
      try clear hcz11_1
      try clear hcz11_2
      try clear hcz11_3
      try clear hcz11_4
      try clear hcz11_5
      try clear hcz13_0
      try clear hcz13_1
      try clear hcz13_2
      try clear hcz13_3
      try clear hcz13_4
      try clear hcz13_5
      try clear hcz21_0
      try clear hcz21_1
      try clear hcz21_2
      try clear hcz21_3
      try clear hcz21_4
      try clear hcz21_5
      try clear hcz25_0
      try clear hcz25_1
      try clear hcz25_2
      try clear hcz25_3
      try clear hcz30_0
      try clear hcz30_1
      try clear hcz30_2
      try clear hcz30_3
      try clear hcz33_0
      try clear hcz33_1
      try clear hcz33_2
      try clear hcz33_3
      try clear hcz35_0
      try clear hcz35_1
      try clear hcz35_2
      try clear hcz35_3
      try clear hcz36_0
      try clear hcz36_1
      try clear hcz36_2
      try clear hcz36_3
      try clear hcz36_4
      try clear hcz36_5
      try clear hcz9_0
      try clear hcz9_1
      try clear hcz9_2
      try clear hcz9_3
      try clear hcz9_4
      try clear hcz9_5
      try clear hfz11_0
      try clear hfz11_1
      try clear hfz11_2
      try clear hfz11_3
      try clear hfz11_4
      try clear hfz11_5
      try clear hfz13_0
      try clear hfz13_1
      try clear hfz13_2
      try clear hfz13_3
      try clear hfz13_4
      try clear hfz13_5
      try clear hfz21_0
      try clear hfz21_1
      try clear hfz21_2
      try clear hfz21_3
      try clear hfz21_4
      try clear hfz21_5
      try clear hfz25_0
      try clear hfz25_1
      try clear hfz25_2
      try clear hfz25_3
      try clear hfz30_0
      try clear hfz30_1
      try clear hfz30_2
      try clear hfz30_3
      try clear hfz33_0
      try clear hfz33_1
      try clear hfz33_2
      try clear hfz33_3
      try clear hfz35_0
      try clear hfz35_1
      try clear hfz35_2
      try clear hfz35_3
      try clear hfz36_0
      try clear hfz36_1
      try clear hfz36_2
      try clear hfz36_3
      try clear hfz36_4
      try clear hfz36_5
      try clear hfz9_0
      try clear hfz9_1
      try clear hfz9_2
      try clear hfz9_3
      try clear hfz9_4
      try clear hfz9_5
      try clear p2
      obtain ⟨kq, x56_19, rfl, HA, HJ19, HO_592001, HO_592003, BK579, BK591, HB⟩ := hcut
      cases kq with
      | zero => exact absurd HA.out (by simp [rushlightlaw25_FrameApart.j1])
      | succ kj19 =>
       have H := HA.out
       clear HA
       simp only [rushlightlaw25_FrameApart.j1] at H
       by_cases c37 : x56_19 = true
       ·
        subst c37
        have H1 : (some false) = some r := by rw [if_pos rfl] at H; exact H
        clear H
        have H := H1
        clear H1
        obtain rfl := Option.some.inj H
        go_wp2
        repeat (go_quiet (fail); try go_wp2)
        go_ret
        exact ⟨by first | rfl | (simp [errW_none, errW_some] <;> rfl) | (simp [*, errW_none, errW_some] <;> rfl), by repeat (first | (with_reducible first | exact HB.out | apply below_alloc | apply pw_below_drewN | apply below_drew1 | refine below_set ?_ GE579.out | refine below_set ?_ GE591.out) | exact HB.out)⟩
       ·
        replace c37 := Bool.eq_false_iff.mpr c37
        subst c37
        have H1 : (if 0 ≤ t582 then (if (t582 : Int).toNat ≤ 281474976710656 then (rushlightlaw25_FrameApart.l0 kj19 a2 (List.replicate (t582 : Int).toNat false) (([0] : List Int)) (([4] : List Int)) 0 a0_0 a0_1 a0_2 a0_3 l0_4 l0_5 t582 t583 t586 t587) else (none)) else (none)) = some r := by rw [if_neg (show ¬ (false = true) by decide)] at H; exact H
        clear H
        have H := H1
        clear H1
        by_cases c38 : 0 ≤ t582
        ·
         rw [if_pos c38] at H
         have c38b0 := eq_true c38
         have c38b1 : decide (0 ≤ t582) = true := decide_eq_true c38
         clear c38
         by_cases c39 : (t582 : Int).toNat ≤ 281474976710656
         ·
          rw [if_pos c39] at H
          have c39b0 := eq_true c39
          have c39b1 : decide ((t582 : Int).toNat ≤ 281474976710656) = true := decide_eq_true c39
          clear c39
          obtain ⟨y593, hy593⟩ : ∃ y_ : List Bool, y_ = (List.replicate (t582 : Int).toNat false) := ⟨_, rfl⟩
          replace H : (rushlightlaw25_FrameApart.l0 kj19 a2 y593 (([0] : List Int)) (([4] : List Int)) 0 a0_0 a0_1 a0_2 a0_3 l0_4 l0_5 t582 t583 t586 t587) = some r := by first | (rw [hy593]; with_reducible exact H) | (have H2_ := (Option.bind_some _ _).symm.trans H; rw [hy593]; with_reducible exact H2_) | (have H2_ := (Option.bind_some _ _).symm.trans H; with_reducible exact H2_) | with_reducible exact H | (rw [hy593]; exact H) | exact H
          have Ny593 := Aside0.mk hy593
          clear hy593
          obtain ⟨y596, hy596⟩ : ∃ y_ : List Int, y_ = (([0] : List Int)) := ⟨_, rfl⟩
          replace H : (rushlightlaw25_FrameApart.l0 kj19 a2 y593 y596 (([4] : List Int)) 0 a0_0 a0_1 a0_2 a0_3 l0_4 l0_5 t582 t583 t586 t587) = some r := by first | (rw [hy596]; with_reducible exact H) | (have H2_ := (Option.bind_some _ _).symm.trans H; rw [hy596]; with_reducible exact H2_) | (have H2_ := (Option.bind_some _ _).symm.trans H; with_reducible exact H2_) | with_reducible exact H | (rw [hy596]; exact H) | exact H
          have Ny596 := Aside0.mk hy596
          clear hy596
          obtain ⟨y599, hy599⟩ : ∃ y_ : List Int, y_ = (([4] : List Int)) := ⟨_, rfl⟩
          replace H : (rushlightlaw25_FrameApart.l0 kj19 a2 y593 y596 y599 0 a0_0 a0_1 a0_2 a0_3 l0_4 l0_5 t582 t583 t586 t587) = some r := by first | (rw [hy599]; with_reducible exact H) | (have H2_ := (Option.bind_some _ _).symm.trans H; rw [hy599]; with_reducible exact H2_) | (have H2_ := (Option.bind_some _ _).symm.trans H; with_reducible exact H2_) | with_reducible exact H | (rw [hy599]; exact H) | exact H
          have Ny599 := Aside0.mk hy599
          clear hy599
          have H' := Aside0.mk H
          clear H
          have hnb40 := NB591_579.out
          have hnc40 := NB579_591.out
          have hcz41_0 : wc.cell? ⟨gb591, 0, none⟩ = some (.int .i64 t582) := (blk_cell BK591.out 0).trans rfl
          have hcz41_1 : wc.cell? ⟨gb591, 1, none⟩ = some (.slice Ao26 t583.length co26) := (blk_cell BK591.out 1).trans rfl
          have hcz41_2 : wc.cell? ⟨gb591, 2, none⟩ = some (.int .i64 t586) := (blk_cell BK591.out 2).trans rfl
          have hcz41_3 : wc.cell? ⟨gb591, 3, none⟩ = some (.slice Ao27 t587.length co27) := (blk_cell BK591.out 3).trans rfl
          have hfz41_0 := blk_frozen BK591.out 0
          have hfz41_1 := blk_frozen BK591.out 1
          have hfz41_2 := blk_frozen BK591.out 2
          have hfz41_3 := blk_frozen BK591.out 3
          go_wp2_with (first | ((with_reducible refine gate_dst (N := 59) rfl ?_); (try (refine gate_guard (by rfl) ?_; dsimp only)); refine Kd.R_make Kd.bool _ 4 rfl (N := 59) rfl 41 _ _ rfl t582 rfl rfl Try.underlying41 (.bool false) 1 info4 rfl (by decide) (by omega) false (ok := fun _ => True) (okp := fun _ => True) rfl (fun _ hk => hk) trivial (of_decide_eq_true (by first | (with_reducible assumption) | assumption)) (Nat.le_trans (Nat.mul_le_mul_right _ (of_decide_eq_true (by first | (with_reducible assumption) | assumption) : t582.toNat ≤ 281474976710656)) (by omega)) (Below.refl _ _) (Nat.le_refl _) ?_; intro v594 w42 ho43 hb hg_ hnew_; clear hg_ hnew_; (first | rw [← Ny593.out] at ho43 | (simp only [Int.reduceToNat] at ho43; rw [← Ny593.out] at ho43)); have n0_ := Aside0.mk (Kd.R_below (by (with_reducible repeat (first | apply Kd.R_alloc | apply Kd.R_drewN | apply Kd.R_drew)); exact HO_592001.out) hb); have n1_ := Aside0.mk (Kd.R_below (by (with_reducible repeat (first | apply Kd.R_alloc | apply Kd.R_drewN | apply Kd.R_drew)); exact HO_592003.out) hb); have n2_ := Aside0.mk (Kd.R_lower ho43 (below_size (by repeat (first | (with_reducible first | exact HB.out | apply below_alloc | apply pw_below_drewN | apply below_drew1 | refine below_set ?_ GE579.out | refine below_set ?_ GE591.out) | exact HB.out)))); have n3_ := Aside0.mk (blk_below (g := gb579) (o := .cells #[.string a0_0, .bool a0_1, .int .i64 a0_2, .int .i64 a0_3, .slice A0_4 l0_4.length c0_4, .slice A0_5 l0_5.length c0_5] 31 (0, 0)) (by (with_reducible repeat (first | refine blk_drewN ?_ _ | refine blk_drew ?_ | refine blk_alloc ?_ _)); exact BK579.out) hb); have n4_ := Aside0.mk (blk_below (g := gb591) (o := .cells #[.int .i64 t582, .slice Ao26 t583.length co26, .int .i64 t586, .slice Ao27 t587.length co27] 67 (0, 0)) (by (with_reducible repeat (first | refine blk_drewN ?_ _ | refine blk_drew ?_ | refine blk_alloc ?_ _)); exact BK591.out) hb); have n5_ := Aside0.mk (below_step (by repeat (first | (with_reducible first | exact HB.out | apply below_alloc | apply pw_below_drewN | apply below_drew1 | refine below_set ?_ GE579.out | refine below_set ?_ GE591.out) | exact HB.out)) hb); clear HO_592001; clear HO_592003; clear BK579; clear BK591; clear HB; have HO_592001 := n0_; have HO_592003 := n1_; have HO595 := n2_; have BK579 := n3_; have BK591 := n4_; have HB := n5_; clear n0_ n1_ n2_ n3_ n4_ n5_; clear hb ho43) | ((with_reducible refine gate_dst (N := 60) rfl ?_); (try (refine gate_guard (by rfl) ?_; dsimp only)); refine Kd.R_lit (Kd.int .i64) _ 3 ?hg (N := 60) ?hd (xs := ([0] : List Int)) (inner := [.int .i64 0]) (ok := fun _ => True) (okp := fun _ => True) ?hr ?hp (fun _ hk => hk) trivial (Below.refl _ _) (Nat.le_refl _) (by simp) ?_; (case hd => rfl); (case hg => rfl); (case hr => first | (go_simp; done) | (go_simp; rfl)); (case hp => exact (Reps.one (show Kd.M (Kd.int .i64) _ _ _ 0 [.int .i64 0] from rfl) (Reps.none _ _))); intro v597 w44 ho45 hb hg_ hnew_; clear hg_ hnew_; (first | rw [← Ny596.out] at ho45 | (simp only [Int.reduceToNat] at ho45; rw [← Ny596.out] at ho45)); have n0_ := Aside0.mk (Kd.R_elder' (by (with_reducible repeat (first | apply Kd.R_alloc | apply Kd.R_drewN | apply Kd.R_drew)); exact HO_592001.out) (Kd.R_base ho45) hb); have n1_ := Aside0.mk (Kd.R_elder' (by (with_reducible repeat (first | apply Kd.R_alloc | apply Kd.R_drewN | apply Kd.R_drew)); exact HO_592003.out) (Kd.R_base ho45) hb); have n2_ := Aside0.mk (Kd.R_below (by (with_reducible repeat (first | apply Kd.R_alloc | apply Kd.R_drewN | apply Kd.R_drew)); exact HO595.out) hb); have n3_ := Aside0.mk (Kd.R_lower (Kd.R_new' (Kd.R_new' ho45 (Kd.R_lt (by (with_reducible repeat (first | apply Kd.R_alloc | apply Kd.R_drewN | apply Kd.R_drew)); exact HO_592001.out))) (Kd.R_lt (by (with_reducible repeat (first | apply Kd.R_alloc | apply Kd.R_drewN | apply Kd.R_drew)); exact HO_592003.out))) (below_size (by repeat (first | (with_reducible first | exact HB.out | apply below_alloc | apply pw_below_drewN | apply below_drew1 | refine below_set ?_ GE579.out | refine below_set ?_ GE591.out) | exact HB.out)))); have n4_ := Aside0.mk (blk_below (g := gb579) (o := .cells #[.string a0_0, .bool a0_1, .int .i64 a0_2, .int .i64 a0_3, .slice A0_4 l0_4.length c0_4, .slice A0_5 l0_5.length c0_5] 31 (0, 0)) (by (with_reducible repeat (first | refine blk_drewN ?_ _ | refine blk_drew ?_ | refine blk_alloc ?_ _)); exact BK579.out) hb); have n5_ := Aside0.mk (blk_below (g := gb591) (o := .cells #[.int .i64 t582, .slice Ao26 t583.length co26, .int .i64 t586, .slice Ao27 t587.length co27] 67 (0, 0)) (by (with_reducible repeat (first | refine blk_drewN ?_ _ | refine blk_drew ?_ | refine blk_alloc ?_ _)); exact BK591.out) hb); have n6_ := Aside0.mk (below_step (by repeat (first | (with_reducible first | exact HB.out | apply below_alloc | apply pw_below_drewN | apply below_drew1 | refine below_set ?_ GE579.out | refine below_set ?_ GE591.out) | exact HB.out)) hb); clear HO_592001; clear HO_592003; clear HO595; clear BK579; clear BK591; clear HB; have HO_592001 := n0_; have HO_592003 := n1_; have HO595 := n2_; have HO598 := n3_; have BK579 := n4_; have BK591 := n5_; have HB := n6_; clear n0_ n1_ n2_ n3_ n4_ n5_ n6_; clear hb ho45) | ((with_reducible refine gate_dst (N := 61) rfl ?_); (try (refine gate_guard (by rfl) ?_; dsimp only)); refine Kd.R_lit (Kd.int .i64) _ 3 ?hg (N := 61) ?hd (xs := ([4] : List Int)) (inner := [.int .i64 4]) (ok := fun _ => True) (okp := fun _ => True) ?hr ?hp (fun _ hk => hk) trivial (Below.refl _ _) (Nat.le_refl _) (by simp) ?_; (case hd => rfl); (case hg => rfl); (case hr => first | (go_simp; done) | (go_simp; rfl)); (case hp => exact (Reps.one (show Kd.M (Kd.int .i64) _ _ _ 4 [.int .i64 4] from rfl) (Reps.none _ _))); intro v600 w46 ho47 hb hg_ hnew_; clear hg_ hnew_; (first | rw [← Ny599.out] at ho47 | (simp only [Int.reduceToNat] at ho47; rw [← Ny599.out] at ho47)); have n0_ := Aside0.mk (Kd.R_elder' (by (with_reducible repeat (first | apply Kd.R_alloc | apply Kd.R_drewN | apply Kd.R_drew)); exact HO_592001.out) (Kd.R_base ho47) hb); have n1_ := Aside0.mk (Kd.R_elder' (by (with_reducible repeat (first | apply Kd.R_alloc | apply Kd.R_drewN | apply Kd.R_drew)); exact HO_592003.out) (Kd.R_base ho47) hb); have n2_ := Aside0.mk (Kd.R_below (by (with_reducible repeat (first | apply Kd.R_alloc | apply Kd.R_drewN | apply Kd.R_drew)); exact HO595.out) hb); have n3_ := Aside0.mk (Kd.R_elder' (by (with_reducible repeat (first | apply Kd.R_alloc | apply Kd.R_drewN | apply Kd.R_drew)); exact HO598.out) (Kd.R_base ho47) hb); have n4_ := Aside0.mk (Kd.R_lower (Kd.R_new' (Kd.R_new' (Kd.R_new' ho47 (Kd.R_lt (by (with_reducible repeat (first | apply Kd.R_alloc | apply Kd.R_drewN | apply Kd.R_drew)); exact HO_592001.out))) (Kd.R_lt (by (with_reducible repeat (first | apply Kd.R_alloc | apply Kd.R_drewN | apply Kd.R_drew)); exact HO_592003.out))) (Kd.R_lt (by (with_reducible repeat (first | apply Kd.R_alloc | apply Kd.R_drewN | apply Kd.R_drew)); exact HO598.out))) (below_size (by repeat (first | (with_reducible first | exact HB.out | apply below_alloc | apply pw_below_drewN | apply below_drew1 | refine below_set ?_ GE579.out | refine below_set ?_ GE591.out) | exact HB.out)))); have n5_ := Aside0.mk (blk_below (g := gb579) (o := .cells #[.string a0_0, .bool a0_1, .int .i64 a0_2, .int .i64 a0_3, .slice A0_4 l0_4.length c0_4, .slice A0_5 l0_5.length c0_5] 31 (0, 0)) (by (with_reducible repeat (first | refine blk_drewN ?_ _ | refine blk_drew ?_ | refine blk_alloc ?_ _)); exact BK579.out) hb); have n6_ := Aside0.mk (blk_below (g := gb591) (o := .cells #[.int .i64 t582, .slice Ao26 t583.length co26, .int .i64 t586, .slice Ao27 t587.length co27] 67 (0, 0)) (by (with_reducible repeat (first | refine blk_drewN ?_ _ | refine blk_drew ?_ | refine blk_alloc ?_ _)); exact BK591.out) hb); have n7_ := Aside0.mk (below_step (by repeat (first | (with_reducible first | exact HB.out | apply below_alloc | apply pw_below_drewN | apply below_drew1 | refine below_set ?_ GE579.out | refine below_set ?_ GE591.out) | exact HB.out)) hb); clear HO_592001; clear HO_592003; clear HO595; clear HO598; clear BK579; clear BK591; clear HB; have HO_592001 := n0_; have HO_592003 := n1_; have HO595 := n2_; have HO598 := n3_; have HO601 := n4_; have BK579 := n5_; have BK591 := n6_; have HB := n7_; clear n0_ n1_ n2_ n3_ n4_ n5_ n6_ n7_; clear hb ho47))
          go_loopg [10, 11, 12] kj19 (fun kq v10 v11 v12 w' => ∃ (x10_3 : List Int) (x11_3 : List Int) (x12_3 : Int), v12 = .int .i64 x12_3 ∧ Aside0 (rushlightlaw25_FrameApart.l0 kq a2 y593 x10_3 x11_3 x12_3 a0_0 a0_1 a0_2 a0_3 l0_4 l0_5 t582 t583 t586 t587 = some r) ∧ Aside0 (kq ≤ kj19) ∧ Aside0 (Kd.R Kd.bool 4 w' w.heap.size (fun _ => True) v594 y593) ∧ Aside0 (Kd.R (Kd.int .i64) 3 w' w.heap.size (fun k_ => some k_ ≠ (v11 : Value).ownBlock ∧ some k_ ≠ ((.slice Ao26 t583.length co26) : Value).ownBlock ∧ some k_ ≠ ((.slice Ao27 t587.length co27) : Value).ownBlock) v10 x10_3) ∧ Aside0 (Kd.R (Kd.int .i64) 3 w' w.heap.size (fun k_ => some k_ ≠ (v10 : Value).ownBlock ∧ some k_ ≠ ((.slice Ao26 t583.length co26) : Value).ownBlock ∧ some k_ ≠ ((.slice Ao27 t587.length co27) : Value).ownBlock) v11 x11_3) ∧ Aside0 (Kd.R (Kd.int .i64) 3 w' w.heap.size (fun k_ => some k_ ≠ (v10 : Value).ownBlock ∧ some k_ ≠ (v11 : Value).ownBlock ∧ some k_ ≠ ((.slice Ao27 t587.length co27) : Value).ownBlock) (.slice Ao26 t583.length co26) t583) ∧ Aside0 (Kd.R (Kd.int .i64) 3 w' w.heap.size (fun k_ => some k_ ≠ (v10 : Value).ownBlock ∧ some k_ ≠ (v11 : Value).ownBlock ∧ some k_ ≠ ((.slice Ao26 t583.length co26) : Value).ownBlock) (.slice Ao27 t587.length co27) t587) ∧ Aside0 (w'.heap[gb579]? = some (.cells #[.string a0_0, .bool a0_1, .int .i64 a0_2, .int .i64 a0_3, (.slice A0_4 l0_4.length c0_4), (.slice A0_5 l0_5.length c0_5)] 31 (0, 0))) ∧ Aside0 (w'.heap[gb591]? = some (.cells #[.int .i64 t582, (.slice Ao26 t583.length co26), .int .i64 t586, (.slice Ao27 t587.length co27)] 67 (0, 0))) ∧ Aside0 (Below w.heap.size w w'))
          case atStart => exact ⟨(y596), (y599), (0), (by first | rfl | (simp; done) | (simp [*]; done)), H', ⟨Nat.le_refl _⟩, ⟨by (with_reducible repeat (first | apply Kd.R_alloc | apply Kd.R_drewN | apply Kd.R_drew)); exact HO595.out⟩, ⟨by (with_reducible repeat (first | apply Kd.R_alloc | apply Kd.R_drewN | apply Kd.R_drew)); exact Kd.R_mono HO598.out (fun _ hk => ⟨hk.2, ⟨hk.1.1.2, hk.1.2⟩⟩)⟩, ⟨by (with_reducible repeat (first | apply Kd.R_alloc | apply Kd.R_drewN | apply Kd.R_drew)); exact Kd.R_mono HO601.out (fun _ hk => ⟨hk.2, ⟨hk.1.1.2, hk.1.2⟩⟩)⟩, ⟨by (with_reducible repeat (first | apply Kd.R_alloc | apply Kd.R_drewN | apply Kd.R_drew)); exact Kd.R_mono HO_592001.out (fun _ hk => ⟨hk.1.2, ⟨hk.2, hk.1.1⟩⟩)⟩, ⟨by (with_reducible repeat (first | apply Kd.R_alloc | apply Kd.R_drewN | apply Kd.R_drew)); exact Kd.R_mono HO_592003.out (fun _ hk => ⟨hk.1.2, ⟨hk.2, hk.1.1⟩⟩)⟩, ⟨by (with_reducible repeat (first | refine blk_drewN ?_ _ | refine blk_drew ?_ | refine blk_alloc ?_ _)); exact BK579.out⟩, ⟨by (with_reducible repeat (first | refine blk_drewN ?_ _ | refine blk_drew ?_ | refine blk_alloc ?_ _)); exact BK591.out⟩, ⟨by repeat (first | (with_reducible first | exact HB.out | apply below_alloc | apply pw_below_drewN | apply below_drew1 | refine below_set ?_ GE579.out | refine below_set ?_ GE591.out) | exact HB.out)⟩⟩
          case round =>
           clear H'
           try clear c1
           try clear c2
           try clear p2
           try clear c3
           try clear c4
           try clear c7
           try clear c8
           try clear c8b0
           try clear c9
           try clear c15
           try clear c19
           try clear c19b0
           try clear c19b1
           try clear c24
           try clear c28
           try clear c28b0
           try clear c29
           try clear c31
           try clear c31b0
           try clear c32
           try clear c34
           try clear c37
           try clear c38
           try clear c38b0
           try clear c38b1
           try clear c39
           try clear c39b0
           try clear c39b1
           try clear c40
           try clear hcz11_0
           try clear hcz11_1
           try clear hcz11_2
           try clear hcz11_3
           try clear hcz11_4
           try clear hcz11_5
           try clear hcz13_0
           try clear hcz13_1
           try clear hcz13_2
           try clear hcz13_3
           try clear hcz13_4
           try clear hcz13_5
           try clear hcz21_0
           try clear hcz21_1
           try clear hcz21_2
           try clear hcz21_3
           try clear hcz21_4
           try clear hcz21_5
           try clear hcz25_0
           try clear hcz25_1
           try clear hcz25_2
           try clear hcz25_3
           try clear hcz30_0
           try clear hcz30_1
           try clear hcz30_2
           try clear hcz30_3
           try clear hcz33_0
           try clear hcz33_1
           try clear hcz33_2
           try clear hcz33_3
           try clear hcz35_0
           try clear hcz35_1
           try clear hcz35_2
           try clear hcz35_3
           try clear hcz36_0
           try clear hcz36_1
           try clear hcz36_2
           try clear hcz36_3
           try clear hcz36_4
           try clear hcz36_5
           try clear hcz41_0
           try clear hcz41_1
           try clear hcz41_2
           try clear hcz41_3
           try clear hcz9_0
           try clear hcz9_1
           try clear hcz9_2
           try clear hcz9_3
           try clear hcz9_4
           try clear hcz9_5
           try clear hfz11_0
           try clear hfz11_1
           try clear hfz11_2
           try clear hfz11_3
           try clear hfz11_4
           try clear hfz11_5
           try clear hfz13_0
           try clear hfz13_1
           try clear hfz13_2
           try clear hfz13_3
           try clear hfz13_4
           try clear hfz13_5
           try clear hfz21_0
           try clear hfz21_1
           try clear hfz21_2
           try clear hfz21_3
           try clear hfz21_4
           try clear hfz21_5
           try clear hfz25_0
           try clear hfz25_1
           try clear hfz25_2
           try clear hfz25_3
           try clear hfz30_0
           try clear hfz30_1
           try clear hfz30_2
           try clear hfz30_3
           try clear hfz33_0
           try clear hfz33_1
           try clear hfz33_2
           try clear hfz33_3
           try clear hfz35_0
           try clear hfz35_1
           try clear hfz35_2
           try clear hfz35_3
           try clear hfz36_0
           try clear hfz36_1
           try clear hfz36_2
           try clear hfz36_3
           try clear hfz36_4
           try clear hfz36_5
           try clear hfz41_0
           try clear hfz41_1
           try clear hfz41_2
           try clear hfz41_3
           try clear hfz9_0
           try clear hfz9_1
           try clear hfz9_2
           try clear hfz9_3
           try clear hfz9_4
           try clear hfz9_5
           try clear p2
           obtain ⟨x10_3, x11_3, x12_3, rfl, HA, HK3, HO_9, HO_10, HO_11, HO_592001, HO_592003, BK579, BK591, HB⟩ := hrel
           cases gk with
           | zero => exact absurd HA.out (by simp [rushlightlaw25_FrameApart.l0])
           | succ k3 =>
            have H := HA.out
            clear HA
            simp only [rushlightlaw25_FrameApart.l0] at H
            by_cases c48 : x12_3 < (t583.length : Int)
            ·
             rw [if_pos c48] at H
             have c48b0 : decide (x12_3 < (t583.length : Int)) = true := decide_eq_true c48
             clear c48
             replace H := Option.bind_eq_some_iff.mp H
             obtain ⟨t602, A490, H⟩ := H
             replace H : (if x10_3.length < 17592186044416 then (if x11_3.length < 17592186044416 then (rushlightlaw25_FrameApart.l0 k3 a2 y593 (x10_3 ++ [t602]) (x11_3 ++ [4]) (wrap64 (x12_3 + 1)) a0_0 a0_1 a0_2 a0_3 l0_4 l0_5 t582 t583 t586 t587) else (none)) else (none)) = some r := H
             have A49 := Aside0.mk A490
             clear A490
             by_cases c50 : x10_3.length < 17592186044416
             ·
              rw [if_pos c50] at H
              have LMc50 := Aside0.mk c50
              clear c50
              obtain ⟨y603, hy603⟩ : ∃ y_ : List Int, y_ = (x10_3 ++ [t602]) := ⟨_, rfl⟩
              replace H : (if x11_3.length < 17592186044416 then (rushlightlaw25_FrameApart.l0 k3 a2 y593 y603 (x11_3 ++ [4]) (wrap64 (x12_3 + 1)) a0_0 a0_1 a0_2 a0_3 l0_4 l0_5 t582 t583 t586 t587) else (none)) = some r := by first | (rw [hy603]; with_reducible exact H) | (have H2_ := (Option.bind_some _ _).symm.trans H; rw [hy603]; with_reducible exact H2_) | (have H2_ := (Option.bind_some _ _).symm.trans H; with_reducible exact H2_) | with_reducible exact H | (rw [hy603]; exact H) | exact H
              have Ny603 := Aside0.mk hy603
              clear hy603
              by_cases c51 : x11_3.length < 17592186044416
              ·
               rw [if_pos c51] at H
               have LMc51 := Aside0.mk c51
               clear c51
               obtain ⟨y606, hy606⟩ : ∃ y_ : List Int, y_ = (x11_3 ++ [4]) := ⟨_, rfl⟩
               replace H : (rushlightlaw25_FrameApart.l0 k3 a2 y593 y603 y606 (wrap64 (x12_3 + 1)) a0_0 a0_1 a0_2 a0_3 l0_4 l0_5 t582 t583 t586 t587) = some r := by first | (rw [hy606]; with_reducible exact H) | (have H2_ := (Option.bind_some _ _).symm.trans H; rw [hy606]; with_reducible exact H2_) | (have H2_ := (Option.bind_some _ _).symm.trans H; with_reducible exact H2_) | with_reducible exact H | (rw [hy606]; exact H) | exact H
               have Ny606 := Aside0.mk hy606
               clear hy606
               have H' := Aside0.mk H
               clear H
               have hnb52 := NB591_579.out
               have hnc52 := NB579_591.out
               have hcz53_0 : wr.cell? ⟨gb591, 0, none⟩ = some (.int .i64 t582) := (blk_cell BK591.out 0).trans rfl
               have hcz53_1 : wr.cell? ⟨gb591, 1, none⟩ = some (.slice Ao26 t583.length co26) := (blk_cell BK591.out 1).trans rfl
               have hcz53_2 : wr.cell? ⟨gb591, 2, none⟩ = some (.int .i64 t586) := (blk_cell BK591.out 2).trans rfl
               have hcz53_3 : wr.cell? ⟨gb591, 3, none⟩ = some (.slice Ao27 t587.length co27) := (blk_cell BK591.out 3).trans rfl
               have hfz53_0 := blk_frozen BK591.out 0
               have hfz53_1 := blk_frozen BK591.out 1
               have hfz53_2 := blk_frozen BK591.out 2
               have hfz53_3 := blk_frozen BK591.out 3
               go_wp2_with (first | (go_at_call 36; (with_reducible refine (frame_Kept.calls t582 _ _ t583 t586 _ _ t587 x12_3 t602 _ ?side1 ?side2 ?side3 ?side4 A49.out).mono ?_); (case side1 => repeat (first | exact (Kd.R_reads' HO_592001.out).2.2 | (with_reducible refine Kd.C_alloc ?_ _) | (with_reducible refine Kd.C_drewN ?_ _) | (with_reducible refine Kd.C_drew ?_))); (case side2 => exact (Kd.R_reads' HO_592001.out).2.1); (case side3 => repeat (first | exact (Kd.R_reads' HO_592003.out).2.2 | (with_reducible refine Kd.C_alloc ?_ _) | (with_reducible refine Kd.C_drewN ?_ _) | (with_reducible refine Kd.C_drew ?_))); (case side4 => exact (Kd.R_reads' HO_592003.out).2.1); rintro e w54 ⟨rfl, hb⟩; have n0_ := Aside0.mk (Kd.R_below (by (with_reducible repeat (first | apply Kd.R_alloc | apply Kd.R_drewN | apply Kd.R_drew)); exact HO_9.out) hb); have n1_ := Aside0.mk (Kd.R_below (by (with_reducible repeat (first | apply Kd.R_alloc | apply Kd.R_drewN | apply Kd.R_drew)); exact HO_10.out) hb); have n2_ := Aside0.mk (Kd.R_below (by (with_reducible repeat (first | apply Kd.R_alloc | apply Kd.R_drewN | apply Kd.R_drew)); exact HO_11.out) hb); have n3_ := Aside0.mk (Kd.R_below (by (with_reducible repeat (first | apply Kd.R_alloc | apply Kd.R_drewN | apply Kd.R_drew)); exact HO_592001.out) hb); have n4_ := Aside0.mk (Kd.R_below (by (with_reducible repeat (first | apply Kd.R_alloc | apply Kd.R_drewN | apply Kd.R_drew)); exact HO_592003.out) hb); have n5_ := Aside0.mk (blk_below (g := gb579) (o := .cells #[.string a0_0, .bool a0_1, .int .i64 a0_2, .int .i64 a0_3, .slice A0_4 l0_4.length c0_4, .slice A0_5 l0_5.length c0_5] 31 (0, 0)) (by (with_reducible repeat (first | refine blk_drewN ?_ _ | refine blk_drew ?_ | refine blk_alloc ?_ _)); exact BK579.out) hb); have n6_ := Aside0.mk (blk_below (g := gb591) (o := .cells #[.int .i64 t582, .slice Ao26 t583.length co26, .int .i64 t586, .slice Ao27 t587.length co27] 67 (0, 0)) (by (with_reducible repeat (first | refine blk_drewN ?_ _ | refine blk_drew ?_ | refine blk_alloc ?_ _)); exact BK591.out) hb); have n7_ := Aside0.mk (below_step (by repeat (first | (with_reducible first | exact HB.out | apply below_alloc | apply pw_below_drewN | apply below_drew1 | refine below_set ?_ GE579.out | refine below_set ?_ GE591.out) | exact HB.out)) hb); clear HO_9; clear HO_10; clear HO_11; clear HO_592001; clear HO_592003; clear BK579; clear BK591; clear HB; have HO_9 := n0_; have HO_10 := n1_; have HO_11 := n2_; have HO_592001 := n3_; have HO_592003 := n4_; have BK579 := n5_; have BK591 := n6_; have HB := n7_; clear n0_ n1_ n2_ n3_ n4_ n5_ n6_ n7_; (try clear hb); (try clear hb2); (try clear hk); (try clear hi)) | ((with_reducible refine gate_builtin (b := .append) (xs := #[.tmp 69, .tmp 73]) rfl ?_); (try (refine gate_guard (by rfl) ?_; dsimp only)); at_builtin; refine Kd.R_append (Kd.int .i64) (w0 := w) w.heap.size rfl (.tmp 69) (.tmp 73) 46 3 (.int .i64 0) 8 rfl Try.underlying46 info3 rfl (by decide) (by omega) u10 x10_3 t602 [.int .i64 t602] (fun k_ => some k_ ≠ (u11 : Value).ownBlock ∧ some k_ ≠ (.slice Ao26 t583.length co26 : Value).ownBlock ∧ some k_ ≠ (.slice Ao27 t587.length co27 : Value).ownBlock) (fun _ => False) rfl rfl ?aP (fun _ hk => hk.elim) ?aF ?aO ?aB ?aS ?aL ?_; (case aP => exact rfl); (case aB => exact (by repeat (first | (with_reducible first | exact HB.out | apply below_alloc | apply pw_below_drewN | apply below_drew1 | refine below_set ?_ GE579.out | refine below_set ?_ GE591.out) | exact HB.out))); (case aF => exact (fun k_ hk => ⟨Kd.fresh' (Kd.R_lt (by (with_reducible repeat (first | apply Kd.R_alloc | apply Kd.R_drewN | apply Kd.R_drew)); exact HO_11.out)) k_ hk, Kd.fresh' (Kd.R_lt (by (with_reducible repeat (first | apply Kd.R_alloc | apply Kd.R_drewN | apply Kd.R_drew)); exact HO_592001.out)) k_ hk, Kd.fresh' (Kd.R_lt (by (with_reducible repeat (first | apply Kd.R_alloc | apply Kd.R_drewN | apply Kd.R_drew)); exact HO_592003.out)) k_ hk⟩)); (case aO => exact (by (with_reducible repeat (first | apply Kd.R_alloc | apply Kd.R_drewN | apply Kd.R_drew)); exact HO_10.out)); (case aS => exact (below_size (by repeat (first | (with_reducible first | exact HB.out | apply below_alloc | apply pw_below_drewN | apply below_drew1 | refine below_set ?_ GE579.out | refine below_set ?_ GE591.out) | exact HB.out)))); (case aL => have := LMc50.out; omega); intro v604 w55 ho hb hg hat; rw [← Ny603.out] at ho; have n0_ := Aside0.mk (Kd.R_over' (by (with_reducible repeat (first | apply Kd.R_alloc | apply Kd.R_drewN | apply Kd.R_drew)); exact HO_9.out) (Kd.R_typed (by (with_reducible repeat (first | apply Kd.R_alloc | apply Kd.R_drewN | apply Kd.R_drew)); exact HO_10.out)) (by decide) hg); have n1_ := Aside0.mk (Kd.R_after (ok := (fun k_ => some k_ ≠ (.slice Ao26 t583.length co26 : Value).ownBlock ∧ some k_ ≠ (.slice Ao27 t587.length co27 : Value).ownBlock)) (by (with_reducible repeat (first | apply Kd.R_alloc | apply Kd.R_drewN | apply Kd.R_drew)); exact Kd.R_mono HO_11.out (fun _ hk => ⟨⟨hk.2.1, hk.2.2⟩, hk.1⟩)) hg hat); have n2_ := Aside0.mk (Kd.R_after (ok := (fun k_ => some k_ ≠ (u11 : Value).ownBlock ∧ some k_ ≠ (.slice Ao27 t587.length co27 : Value).ownBlock)) (by (with_reducible repeat (first | apply Kd.R_alloc | apply Kd.R_drewN | apply Kd.R_drew)); exact Kd.R_mono HO_592001.out (fun _ hk => ⟨⟨hk.2.1, hk.2.2⟩, hk.1⟩)) hg hat); have n3_ := Aside0.mk (Kd.R_after (ok := (fun k_ => some k_ ≠ (u11 : Value).ownBlock ∧ some k_ ≠ (.slice Ao26 t583.length co26 : Value).ownBlock)) (by (with_reducible repeat (first | apply Kd.R_alloc | apply Kd.R_drewN | apply Kd.R_drew)); exact Kd.R_mono HO_592003.out (fun _ hk => ⟨⟨hk.2.1, hk.2.2⟩, hk.1⟩)) hg hat); have n4_ := Aside0.mk (blk_grown (g := gb579) (o := .cells #[.string a0_0, .bool a0_1, .int .i64 a0_2, .int .i64 a0_3, .slice A0_4 l0_4.length c0_4, .slice A0_5 l0_5.length c0_5] 31 (0, 0)) (by (with_reducible repeat (first | refine blk_drewN ?_ _ | refine blk_drew ?_ | refine blk_alloc ?_ _)); exact BK579.out) hg (Kd.R_ne HO_10.out BK579.out (by decide))); have n5_ := Aside0.mk (blk_grown (g := gb591) (o := .cells #[.int .i64 t582, .slice Ao26 t583.length co26, .int .i64 t586, .slice Ao27 t587.length co27] 67 (0, 0)) (by (with_reducible repeat (first | refine blk_drewN ?_ _ | refine blk_drew ?_ | refine blk_alloc ?_ _)); exact BK591.out) hg (Kd.R_ne HO_10.out BK591.out (by decide))); have n6_ := Aside0.mk (hb); have n7_ := Aside0.mk (ho); clear HO_9; clear HO_11; clear HO_592001; clear HO_592003; clear BK579; clear BK591; clear HB; clear HO_10; have HO_9 := n0_; have HO_11 := n1_; have HO_592001 := n2_; have HO_592003 := n3_; have BK579 := n4_; have BK591 := n5_; have HB := n6_; have HO605 := n7_; clear n0_ n1_ n2_ n3_ n4_ n5_ n6_ n7_; clear ho hb hg hat) | ((with_reducible refine gate_builtin (b := .append) (xs := #[.tmp 75, .tmp 76]) rfl ?_); (try (refine gate_guard (by rfl) ?_; dsimp only)); at_builtin; refine Kd.R_append (Kd.int .i64) (w0 := w) w.heap.size rfl (.tmp 75) (.tmp 76) 46 3 (.int .i64 0) 8 rfl Try.underlying46 info3 rfl (by decide) (by omega) u11 x11_3 4 [.int .i64 4] (fun k_ => some k_ ≠ (.slice Ao26 t583.length co26 : Value).ownBlock ∧ some k_ ≠ (.slice Ao27 t587.length co27 : Value).ownBlock ∧ some k_ ≠ (v604 : Value).ownBlock) (fun _ => False) rfl rfl ?aP (fun _ hk => hk.elim) ?aF ?aO ?aB ?aS ?aL ?_; (case aP => exact rfl); (case aB => exact (by repeat (first | (with_reducible first | exact HB.out | apply below_alloc | apply pw_below_drewN | apply below_drew1 | refine below_set ?_ GE579.out | refine below_set ?_ GE591.out) | exact HB.out))); (case aF => exact (fun k_ hk => ⟨Kd.fresh' (Kd.R_lt (by (with_reducible repeat (first | apply Kd.R_alloc | apply Kd.R_drewN | apply Kd.R_drew)); exact HO_592001.out)) k_ hk, Kd.fresh' (Kd.R_lt (by (with_reducible repeat (first | apply Kd.R_alloc | apply Kd.R_drewN | apply Kd.R_drew)); exact HO_592003.out)) k_ hk, Kd.fresh' (Kd.R_lt (by (with_reducible repeat (first | apply Kd.R_alloc | apply Kd.R_drewN | apply Kd.R_drew)); exact HO605.out)) k_ hk⟩)); (case aO => exact (by (with_reducible repeat (first | apply Kd.R_alloc | apply Kd.R_drewN | apply Kd.R_drew)); exact Kd.R_mono HO_11.out (fun _ hk => ⟨hk.1.1, ⟨hk.1.2, hk.2⟩⟩))); (case aS => exact (below_size (by repeat (first | (with_reducible first | exact HB.out | apply below_alloc | apply pw_below_drewN | apply below_drew1 | refine below_set ?_ GE579.out | refine below_set ?_ GE591.out) | exact HB.out)))); (case aL => have := LMc51.out; omega); intro v607 w56 ho hb hg hat; rw [← Ny606.out] at ho; have n0_ := Aside0.mk (Kd.R_over' (by (with_reducible repeat (first | apply Kd.R_alloc | apply Kd.R_drewN | apply Kd.R_drew)); exact HO_9.out) (Kd.R_typed (by (with_reducible repeat (first | apply Kd.R_alloc | apply Kd.R_drewN | apply Kd.R_drew)); exact HO_11.out)) (by decide) hg); have n1_ := Aside0.mk (Kd.R_after (ok := (fun k_ => some k_ ≠ (.slice Ao27 t587.length co27 : Value).ownBlock ∧ some k_ ≠ (v604 : Value).ownBlock)) (by (with_reducible repeat (first | apply Kd.R_alloc | apply Kd.R_drewN | apply Kd.R_drew)); exact Kd.R_mono HO_592001.out (fun _ hk => ⟨⟨hk.1.2, hk.2⟩, hk.1.1⟩)) hg hat); have n2_ := Aside0.mk (Kd.R_after (ok := (fun k_ => some k_ ≠ (.slice Ao26 t583.length co26 : Value).ownBlock ∧ some k_ ≠ (v604 : Value).ownBlock)) (by (with_reducible repeat (first | apply Kd.R_alloc | apply Kd.R_drewN | apply Kd.R_drew)); exact Kd.R_mono HO_592003.out (fun _ hk => ⟨⟨hk.1.2, hk.2⟩, hk.1.1⟩)) hg hat); have n3_ := Aside0.mk (blk_grown (g := gb579) (o := .cells #[.string a0_0, .bool a0_1, .int .i64 a0_2, .int .i64 a0_3, .slice A0_4 l0_4.length c0_4, .slice A0_5 l0_5.length c0_5] 31 (0, 0)) (by (with_reducible repeat (first | refine blk_drewN ?_ _ | refine blk_drew ?_ | refine blk_alloc ?_ _)); exact BK579.out) hg (Kd.R_ne HO_11.out BK579.out (by decide))); have n4_ := Aside0.mk (blk_grown (g := gb591) (o := .cells #[.int .i64 t582, .slice Ao26 t583.length co26, .int .i64 t586, .slice Ao27 t587.length co27] 67 (0, 0)) (by (with_reducible repeat (first | refine blk_drewN ?_ _ | refine blk_drew ?_ | refine blk_alloc ?_ _)); exact BK591.out) hg (Kd.R_ne HO_11.out BK591.out (by decide))); have n5_ := Aside0.mk (Kd.R_after (ok := (fun k_ => some k_ ≠ (.slice Ao26 t583.length co26 : Value).ownBlock ∧ some k_ ≠ (.slice Ao27 t587.length co27 : Value).ownBlock)) (by (with_reducible repeat (first | apply Kd.R_alloc | apply Kd.R_drewN | apply Kd.R_drew)); exact Kd.R_mono HO605.out (fun _ hk => ⟨⟨hk.2.1, hk.2.2⟩, hk.1⟩)) hg hat); have n6_ := Aside0.mk (hb); have n7_ := Aside0.mk (ho); clear HO_9; clear HO_592001; clear HO_592003; clear BK579; clear BK591; clear HO605; clear HB; clear HO_11; have HO_9 := n0_; have HO_592001 := n1_; have HO_592003 := n2_; have BK579 := n3_; have BK591 := n4_; have HO605 := n5_; have HB := n6_; have HO608 := n7_; clear n0_ n1_ n2_ n3_ n4_ n5_ n6_ n7_; clear ho hb hg hat))
               go_roundg k3
               case measure => have := HJ3.out; have := HJ19.out; have := HK3.out; omega
               case rel => exact ⟨(y603), (y606), (wrap64 (x12_3 + 1)), (by first | rfl | (simp; done) | (simp [*]; done)), H', ⟨by have := HJ3.out; have := HJ19.out; have := HK3.out; omega⟩, ⟨by (with_reducible repeat (first | apply Kd.R_alloc | apply Kd.R_drewN | apply Kd.R_drew)); exact HO_9.out⟩, ⟨by (with_reducible repeat (first | apply Kd.R_alloc | apply Kd.R_drewN | apply Kd.R_drew)); exact Kd.R_mono HO605.out (fun _ hk => ⟨hk.2, ⟨hk.1.1, hk.1.2⟩⟩)⟩, ⟨by (with_reducible repeat (first | apply Kd.R_alloc | apply Kd.R_drewN | apply Kd.R_drew)); exact Kd.R_mono HO608.out (fun _ hk => ⟨hk.2.2, ⟨hk.1, hk.2.1⟩⟩)⟩, ⟨by (with_reducible repeat (first | apply Kd.R_alloc | apply Kd.R_drewN | apply Kd.R_drew)); exact Kd.R_mono HO_592001.out (fun _ hk => ⟨hk.1.2, ⟨hk.2, hk.1.1⟩⟩)⟩, ⟨by (with_reducible repeat (first | apply Kd.R_alloc | apply Kd.R_drewN | apply Kd.R_drew)); exact Kd.R_mono HO_592003.out (fun _ hk => ⟨hk.1.2, ⟨hk.2, hk.1.1⟩⟩)⟩, ⟨by (with_reducible repeat (first | refine blk_drewN ?_ _ | refine blk_drew ?_ | refine blk_alloc ?_ _)); exact BK579.out⟩, ⟨by (with_reducible repeat (first | refine blk_drewN ?_ _ | refine blk_drew ?_ | refine blk_alloc ?_ _)); exact BK591.out⟩, ⟨by repeat (first | (with_reducible first | exact HB.out | apply below_alloc | apply pw_below_drewN | apply below_drew1 | refine below_set ?_ GE579.out | refine below_set ?_ GE591.out) | exact HB.out)⟩⟩
              ·
               rw [if_neg c51] at H
               exact absurd H (by simp)
             ·
              rw [if_neg c50] at H
              exact absurd H (by simp)
            ·
             rw [if_neg c48] at H
             have c48b0 : decide (x12_3 < (t583.length : Int)) = false := decide_eq_false c48
             clear c48
             have H' := Aside0.mk H
             clear H
             have hnb57 := NB591_579.out
             have hnc57 := NB579_591.out
             have hcz58_0 : wr.cell? ⟨gb591, 0, none⟩ = some (.int .i64 t582) := (blk_cell BK591.out 0).trans rfl
             have hcz58_1 : wr.cell? ⟨gb591, 1, none⟩ = some (.slice Ao26 t583.length co26) := (blk_cell BK591.out 1).trans rfl
             have hcz58_2 : wr.cell? ⟨gb591, 2, none⟩ = some (.int .i64 t586) := (blk_cell BK591.out 2).trans rfl
             have hcz58_3 : wr.cell? ⟨gb591, 3, none⟩ = some (.slice Ao27 t587.length co27) := (blk_cell BK591.out 3).trans rfl
             have hfz58_0 := blk_frozen BK591.out 0
             have hfz58_1 := blk_frozen BK591.out 1
             have hfz58_2 := blk_frozen BK591.out 2
             have hfz58_3 := blk_frozen BK591.out 3
             go_wp2
             repeat (go_quiet (fail); try go_wp2)
             go_loopg [10, 11, 13] k3 (fun kq v10 v11 v13 w' => ∃ (x10_4 : List Int) (x11_4 : List Int) (x13_4 : Int), v13 = .int .i64 x13_4 ∧ Aside0 (rushlightlaw25_FrameApart.l1 kq a2 y593 x10_4 x11_4 x13_4 a0_0 a0_1 a0_2 a0_3 l0_4 l0_5 t582 t583 t586 t587 = some r) ∧ Aside0 (kq ≤ k3) ∧ Aside0 (Kd.R Kd.bool 4 w' w.heap.size (fun _ => True) v594 y593) ∧ Aside0 (Kd.R (Kd.int .i64) 3 w' w.heap.size (fun k_ => some k_ ≠ (v11 : Value).ownBlock ∧ some k_ ≠ ((.slice Ao26 t583.length co26) : Value).ownBlock ∧ some k_ ≠ ((.slice Ao27 t587.length co27) : Value).ownBlock) v10 x10_4) ∧ Aside0 (Kd.R (Kd.int .i64) 3 w' w.heap.size (fun k_ => some k_ ≠ (v10 : Value).ownBlock ∧ some k_ ≠ ((.slice Ao26 t583.length co26) : Value).ownBlock ∧ some k_ ≠ ((.slice Ao27 t587.length co27) : Value).ownBlock) v11 x11_4) ∧ Aside0 (Kd.R (Kd.int .i64) 3 w' w.heap.size (fun k_ => some k_ ≠ (v10 : Value).ownBlock ∧ some k_ ≠ (v11 : Value).ownBlock ∧ some k_ ≠ ((.slice Ao27 t587.length co27) : Value).ownBlock) (.slice Ao26 t583.length co26) t583) ∧ Aside0 (Kd.R (Kd.int .i64) 3 w' w.heap.size (fun k_ => some k_ ≠ (v10 : Value).ownBlock ∧ some k_ ≠ (v11 : Value).ownBlock ∧ some k_ ≠ ((.slice Ao26 t583.length co26) : Value).ownBlock) (.slice Ao27 t587.length co27) t587) ∧ Aside0 (w'.heap[gb579]? = some (.cells #[.string a0_0, .bool a0_1, .int .i64 a0_2, .int .i64 a0_3, (.slice A0_4 l0_4.length c0_4), (.slice A0_5 l0_5.length c0_5)] 31 (0, 0))) ∧ Aside0 (w'.heap[gb591]? = some (.cells #[.int .i64 t582, (.slice Ao26 t583.length co26), .int .i64 t586, (.slice Ao27 t587.length co27)] 67 (0, 0))) ∧ Aside0 (Below w.heap.size w w'))
             case atStart => exact ⟨(x10_3), (x11_3), (0), (by first | rfl | (simp; done) | (simp [*]; done)), H', ⟨Nat.le_refl _⟩, ⟨by (with_reducible repeat (first | apply Kd.R_alloc | apply Kd.R_drewN | apply Kd.R_drew)); exact HO_9.out⟩, ⟨by (with_reducible repeat (first | apply Kd.R_alloc | apply Kd.R_drewN | apply Kd.R_drew)); exact HO_10.out⟩, ⟨by (with_reducible repeat (first | apply Kd.R_alloc | apply Kd.R_drewN | apply Kd.R_drew)); exact HO_11.out⟩, ⟨by (with_reducible repeat (first | apply Kd.R_alloc | apply Kd.R_drewN | apply Kd.R_drew)); exact HO_592001.out⟩, ⟨by (with_reducible repeat (first | apply Kd.R_alloc | apply Kd.R_drewN | apply Kd.R_drew)); exact HO_592003.out⟩, ⟨by (with_reducible repeat (first | refine blk_drewN ?_ _ | refine blk_drew ?_ | refine blk_alloc ?_ _)); exact BK579.out⟩, ⟨by (with_reducible repeat (first | refine blk_drewN ?_ _ | refine blk_drew ?_ | refine blk_alloc ?_ _)); exact BK591.out⟩, ⟨by repeat (first | (with_reducible first | exact HB.out | apply below_alloc | apply pw_below_drewN | apply below_drew1 | refine below_set ?_ GE579.out | refine below_set ?_ GE591.out) | exact HB.out)⟩⟩
             case round =>
              clear H'
              try clear c1
              try clear c2
              try clear p2
              try clear c3
              try clear c4
              try clear c5
              try clear p6
              try clear c7
              try clear c8
              try clear c8b0
              try clear c9
              try clear c15
              try clear c19
              try clear c19b0
              try clear c19b1
              try clear c24
              try clear c28
              try clear c28b0
              try clear c29
              try clear c31
              try clear c31b0
              try clear c32
              try clear c34
              try clear c37
              try clear c38
              try clear c38b0
              try clear c38b1
              try clear c39
              try clear c39b0
              try clear c39b1
              try clear c40
              try clear c48
              try clear c48b0
              try clear c50
              try clear c51
              try clear c52
              try clear c57
              try clear hcz11_0
              try clear hcz11_1
              try clear hcz11_2
              try clear hcz11_3
              try clear hcz11_4
              try clear hcz11_5
              try clear hcz13_0
              try clear hcz13_1
              try clear hcz13_2
              try clear hcz13_3
              try clear hcz13_4
              try clear hcz13_5
              try clear hcz21_0
              try clear hcz21_1
              try clear hcz21_2
              try clear hcz21_3
              try clear hcz21_4
              try clear hcz21_5
              try clear hcz25_0
              try clear hcz25_1
              try clear hcz25_2
              try clear hcz25_3
              try clear hcz30_0
              try clear hcz30_1
              try clear hcz30_2
              try clear hcz30_3
              try clear hcz33_0
              try clear hcz33_1
              try clear hcz33_2
              try clear hcz33_3
              try clear hcz35_0
              try clear hcz35_1
              try clear hcz35_2
              try clear hcz35_3
              try clear hcz36_0
              try clear hcz36_1
              try clear hcz36_2
              try clear hcz36_3
              try clear hcz36_4
              try clear hcz36_5
              try clear hcz41_0
              try clear hcz41_1
              try clear hcz41_2
              try clear hcz41_3
              try clear hcz53_0
              try clear hcz53_1
              try clear hcz53_2
              try clear hcz53_3
              try clear hcz58_0
              try clear hcz58_1
              try clear hcz58_2
              try clear hcz58_3
              try clear hcz9_0
              try clear hcz9_1
              try clear hcz9_2
              try clear hcz9_3
              try clear hcz9_4
              try clear hcz9_5
              try clear hfz11_0
              try clear hfz11_1
              try clear hfz11_2
              try clear hfz11_3
              try clear hfz11_4
              try clear hfz11_5
              try clear hfz13_0
              try clear hfz13_1
              try clear hfz13_2
              try clear hfz13_3
              try clear hfz13_4
              try clear hfz13_5
              try clear hfz21_0
              try clear hfz21_1
              try clear hfz21_2
              try clear hfz21_3
              try clear hfz21_4
              try clear hfz21_5
              try clear hfz25_0
              try clear hfz25_1
              try clear hfz25_2
              try clear hfz25_3
              try clear hfz30_0
              try clear hfz30_1
              try clear hfz30_2
              try clear hfz30_3
              try clear hfz33_0
              try clear hfz33_1
              try clear hfz33_2
              try clear hfz33_3
              try clear hfz35_0
              try clear hfz35_1
              try clear hfz35_2
              try clear hfz35_3
              try clear hfz36_0
              try clear hfz36_1
              try clear hfz36_2
              try clear hfz36_3
              try clear hfz36_4
              try clear hfz36_5
              try clear hfz41_0
              try clear hfz41_1
              try clear hfz41_2
              try clear hfz41_3
              try clear hfz53_0
              try clear hfz53_1
              try clear hfz53_2
              try clear hfz53_3
              try clear hfz58_0
              try clear hfz58_1
              try clear hfz58_2
              try clear hfz58_3
              try clear hfz9_0
              try clear hfz9_1
              try clear hfz9_2
              try clear hfz9_3
              try clear hfz9_4
              try clear hfz9_5
              try clear p2
              obtain ⟨x10_4, x11_4, x13_4, rfl, HA, HK4, HO_9, HO_10, HO_11, HO_592001, HO_592003, BK579, BK591, HB⟩ := hrel
              cases gk with
              | zero => exact absurd HA.out (by simp [rushlightlaw25_FrameApart.l1])
              | succ k4 =>
               have H := HA.out
               clear HA
               simp only [rushlightlaw25_FrameApart.l1] at H
               by_cases c59 : x13_4 < a2
               ·
                rw [if_pos c59] at H
                have c59b0 : decide (x13_4 < a2) = true := decide_eq_true c59
                clear c59
                replace H := Option.bind_eq_some_iff.mp H
                obtain ⟨t609, A600, H⟩ := H
                replace H : (if x10_4.length < 17592186044416 then (if x11_4.length < 17592186044416 then (rushlightlaw25_FrameApart.l1 k4 a2 y593 (x10_4 ++ [t609]) (x11_4 ++ [4]) (wrap64 (x13_4 + 1)) a0_0 a0_1 a0_2 a0_3 l0_4 l0_5 t582 t583 t586 t587) else (none)) else (none)) = some r := H
                have A60 := Aside0.mk A600
                clear A600
                by_cases c61 : x10_4.length < 17592186044416
                ·
                 rw [if_pos c61] at H
                 have LMc61 := Aside0.mk c61
                 clear c61
                 obtain ⟨y610, hy610⟩ : ∃ y_ : List Int, y_ = (x10_4 ++ [t609]) := ⟨_, rfl⟩
                 replace H : (if x11_4.length < 17592186044416 then (rushlightlaw25_FrameApart.l1 k4 a2 y593 y610 (x11_4 ++ [4]) (wrap64 (x13_4 + 1)) a0_0 a0_1 a0_2 a0_3 l0_4 l0_5 t582 t583 t586 t587) else (none)) = some r := by first | (rw [hy610]; with_reducible exact H) | (have H2_ := (Option.bind_some _ _).symm.trans H; rw [hy610]; with_reducible exact H2_) | (have H2_ := (Option.bind_some _ _).symm.trans H; with_reducible exact H2_) | with_reducible exact H | (rw [hy610]; exact H) | exact H
                 have Ny610 := Aside0.mk hy610
                 clear hy610
                 by_cases c62 : x11_4.length < 17592186044416
                 ·
                  rw [if_pos c62] at H
                  have LMc62 := Aside0.mk c62
                  clear c62
                  obtain ⟨y613, hy613⟩ : ∃ y_ : List Int, y_ = (x11_4 ++ [4]) := ⟨_, rfl⟩
                  replace H : (rushlightlaw25_FrameApart.l1 k4 a2 y593 y610 y613 (wrap64 (x13_4 + 1)) a0_0 a0_1 a0_2 a0_3 l0_4 l0_5 t582 t583 t586 t587) = some r := by first | (rw [hy613]; with_reducible exact H) | (have H2_ := (Option.bind_some _ _).symm.trans H; rw [hy613]; with_reducible exact H2_) | (have H2_ := (Option.bind_some _ _).symm.trans H; with_reducible exact H2_) | with_reducible exact H | (rw [hy613]; exact H) | exact H
                  have Ny613 := Aside0.mk hy613
                  clear hy613
                  have H' := Aside0.mk H
                  clear H
                  have hnb63 := NB591_579.out
                  have hnc63 := NB579_591.out
                  have hcz64_0 : wr.cell? ⟨gb591, 0, none⟩ = some (.int .i64 t582) := (blk_cell BK591.out 0).trans rfl
                  have hcz64_1 : wr.cell? ⟨gb591, 1, none⟩ = some (.slice Ao26 t583.length co26) := (blk_cell BK591.out 1).trans rfl
                  have hcz64_2 : wr.cell? ⟨gb591, 2, none⟩ = some (.int .i64 t586) := (blk_cell BK591.out 2).trans rfl
                  have hcz64_3 : wr.cell? ⟨gb591, 3, none⟩ = some (.slice Ao27 t587.length co27) := (blk_cell BK591.out 3).trans rfl
                  have hfz64_0 := blk_frozen BK591.out 0
                  have hfz64_1 := blk_frozen BK591.out 1
                  have hfz64_2 := blk_frozen BK591.out 2
                  have hfz64_3 := blk_frozen BK591.out 3
                  go_wp2_with (first | (go_at_call 37; (with_reducible refine (frame_Slot.calls t582 _ _ t583 t586 _ _ t587 x13_4 t609 _ ?side1 ?side2 ?side3 ?side4 A60.out).mono ?_); (case side1 => repeat (first | exact (Kd.R_reads' HO_592001.out).2.2 | (with_reducible refine Kd.C_alloc ?_ _) | (with_reducible refine Kd.C_drewN ?_ _) | (with_reducible refine Kd.C_drew ?_))); (case side2 => exact (Kd.R_reads' HO_592001.out).2.1); (case side3 => repeat (first | exact (Kd.R_reads' HO_592003.out).2.2 | (with_reducible refine Kd.C_alloc ?_ _) | (with_reducible refine Kd.C_drewN ?_ _) | (with_reducible refine Kd.C_drew ?_))); (case side4 => exact (Kd.R_reads' HO_592003.out).2.1); rintro e w65 ⟨rfl, hb⟩; have n0_ := Aside0.mk (Kd.R_below (by (with_reducible repeat (first | apply Kd.R_alloc | apply Kd.R_drewN | apply Kd.R_drew)); exact HO_9.out) hb); have n1_ := Aside0.mk (Kd.R_below (by (with_reducible repeat (first | apply Kd.R_alloc | apply Kd.R_drewN | apply Kd.R_drew)); exact HO_10.out) hb); have n2_ := Aside0.mk (Kd.R_below (by (with_reducible repeat (first | apply Kd.R_alloc | apply Kd.R_drewN | apply Kd.R_drew)); exact HO_11.out) hb); have n3_ := Aside0.mk (Kd.R_below (by (with_reducible repeat (first | apply Kd.R_alloc | apply Kd.R_drewN | apply Kd.R_drew)); exact HO_592001.out) hb); have n4_ := Aside0.mk (Kd.R_below (by (with_reducible repeat (first | apply Kd.R_alloc | apply Kd.R_drewN | apply Kd.R_drew)); exact HO_592003.out) hb); have n5_ := Aside0.mk (blk_below (g := gb579) (o := .cells #[.string a0_0, .bool a0_1, .int .i64 a0_2, .int .i64 a0_3, .slice A0_4 l0_4.length c0_4, .slice A0_5 l0_5.length c0_5] 31 (0, 0)) (by (with_reducible repeat (first | refine blk_drewN ?_ _ | refine blk_drew ?_ | refine blk_alloc ?_ _)); exact BK579.out) hb); have n6_ := Aside0.mk (blk_below (g := gb591) (o := .cells #[.int .i64 t582, .slice Ao26 t583.length co26, .int .i64 t586, .slice Ao27 t587.length co27] 67 (0, 0)) (by (with_reducible repeat (first | refine blk_drewN ?_ _ | refine blk_drew ?_ | refine blk_alloc ?_ _)); exact BK591.out) hb); have n7_ := Aside0.mk (below_step (by repeat (first | (with_reducible first | exact HB.out | apply below_alloc | apply pw_below_drewN | apply below_drew1 | refine below_set ?_ GE579.out | refine below_set ?_ GE591.out) | exact HB.out)) hb); clear HO_9; clear HO_10; clear HO_11; clear HO_592001; clear HO_592003; clear BK579; clear BK591; clear HB; have HO_9 := n0_; have HO_10 := n1_; have HO_11 := n2_; have HO_592001 := n3_; have HO_592003 := n4_; have BK579 := n5_; have BK591 := n6_; have HB := n7_; clear n0_ n1_ n2_ n3_ n4_ n5_ n6_ n7_; (try clear hb); (try clear hb2); (try clear hk); (try clear hi)) | ((with_reducible refine gate_builtin (b := .append) (xs := #[.tmp 83, .tmp 87]) rfl ?_); (try (refine gate_guard (by rfl) ?_; dsimp only)); at_builtin; refine Kd.R_append (Kd.int .i64) (w0 := w) w.heap.size rfl (.tmp 83) (.tmp 87) 46 3 (.int .i64 0) 8 rfl Try.underlying46 info3 rfl (by decide) (by omega) u10 x10_4 t609 [.int .i64 t609] (fun k_ => some k_ ≠ (u11 : Value).ownBlock ∧ some k_ ≠ (.slice Ao26 t583.length co26 : Value).ownBlock ∧ some k_ ≠ (.slice Ao27 t587.length co27 : Value).ownBlock) (fun _ => False) rfl rfl ?aP (fun _ hk => hk.elim) ?aF ?aO ?aB ?aS ?aL ?_; (case aP => exact rfl); (case aB => exact (by repeat (first | (with_reducible first | exact HB.out | apply below_alloc | apply pw_below_drewN | apply below_drew1 | refine below_set ?_ GE579.out | refine below_set ?_ GE591.out) | exact HB.out))); (case aF => exact (fun k_ hk => ⟨Kd.fresh' (Kd.R_lt (by (with_reducible repeat (first | apply Kd.R_alloc | apply Kd.R_drewN | apply Kd.R_drew)); exact HO_11.out)) k_ hk, Kd.fresh' (Kd.R_lt (by (with_reducible repeat (first | apply Kd.R_alloc | apply Kd.R_drewN | apply Kd.R_drew)); exact HO_592001.out)) k_ hk, Kd.fresh' (Kd.R_lt (by (with_reducible repeat (first | apply Kd.R_alloc | apply Kd.R_drewN | apply Kd.R_drew)); exact HO_592003.out)) k_ hk⟩)); (case aO => exact (by (with_reducible repeat (first | apply Kd.R_alloc | apply Kd.R_drewN | apply Kd.R_drew)); exact HO_10.out)); (case aS => exact (below_size (by repeat (first | (with_reducible first | exact HB.out | apply below_alloc | apply pw_below_drewN | apply below_drew1 | refine below_set ?_ GE579.out | refine below_set ?_ GE591.out) | exact HB.out)))); (case aL => have := LMc61.out; omega); intro v611 w66 ho hb hg hat; rw [← Ny610.out] at ho; have n0_ := Aside0.mk (Kd.R_over' (by (with_reducible repeat (first | apply Kd.R_alloc | apply Kd.R_drewN | apply Kd.R_drew)); exact HO_9.out) (Kd.R_typed (by (with_reducible repeat (first | apply Kd.R_alloc | apply Kd.R_drewN | apply Kd.R_drew)); exact HO_10.out)) (by decide) hg); have n1_ := Aside0.mk (Kd.R_after (ok := (fun k_ => some k_ ≠ (.slice Ao26 t583.length co26 : Value).ownBlock ∧ some k_ ≠ (.slice Ao27 t587.length co27 : Value).ownBlock)) (by (with_reducible repeat (first | apply Kd.R_alloc | apply Kd.R_drewN | apply Kd.R_drew)); exact Kd.R_mono HO_11.out (fun _ hk => ⟨⟨hk.2.1, hk.2.2⟩, hk.1⟩)) hg hat); have n2_ := Aside0.mk (Kd.R_after (ok := (fun k_ => some k_ ≠ (u11 : Value).ownBlock ∧ some k_ ≠ (.slice Ao27 t587.length co27 : Value).ownBlock)) (by (with_reducible repeat (first | apply Kd.R_alloc | apply Kd.R_drewN | apply Kd.R_drew)); exact Kd.R_mono HO_592001.out (fun _ hk => ⟨⟨hk.2.1, hk.2.2⟩, hk.1⟩)) hg hat); have n3_ := Aside0.mk (Kd.R_after (ok := (fun k_ => some k_ ≠ (u11 : Value).ownBlock ∧ some k_ ≠ (.slice Ao26 t583.length co26 : Value).ownBlock)) (by (with_reducible repeat (first | apply Kd.R_alloc | apply Kd.R_drewN | apply Kd.R_drew)); exact Kd.R_mono HO_592003.out (fun _ hk => ⟨⟨hk.2.1, hk.2.2⟩, hk.1⟩)) hg hat); have n4_ := Aside0.mk (blk_grown (g := gb579) (o := .cells #[.string a0_0, .bool a0_1, .int .i64 a0_2, .int .i64 a0_3, .slice A0_4 l0_4.length c0_4, .slice A0_5 l0_5.length c0_5] 31 (0, 0)) (by (with_reducible repeat (first | refine blk_drewN ?_ _ | refine blk_drew ?_ | refine blk_alloc ?_ _)); exact BK579.out) hg (Kd.R_ne HO_10.out BK579.out (by decide))); have n5_ := Aside0.mk (blk_grown (g := gb591) (o := .cells #[.int .i64 t582, .slice Ao26 t583.length co26, .int .i64 t586, .slice Ao27 t587.length co27] 67 (0, 0)) (by (with_reducible repeat (first | refine blk_drewN ?_ _ | refine blk_drew ?_ | refine blk_alloc ?_ _)); exact BK591.out) hg (Kd.R_ne HO_10.out BK591.out (by decide))); have n6_ := Aside0.mk (hb); have n7_ := Aside0.mk (ho); clear HO_9; clear HO_11; clear HO_592001; clear HO_592003; clear BK579; clear BK591; clear HB; clear HO_10; have HO_9 := n0_; have HO_11 := n1_; have HO_592001 := n2_; have HO_592003 := n3_; have BK579 := n4_; have BK591 := n5_; have HB := n6_; have HO612 := n7_; clear n0_ n1_ n2_ n3_ n4_ n5_ n6_ n7_; clear ho hb hg hat) | ((with_reducible refine gate_builtin (b := .append) (xs := #[.tmp 89, .tmp 90]) rfl ?_); (try (refine gate_guard (by rfl) ?_; dsimp only)); at_builtin; refine Kd.R_append (Kd.int .i64) (w0 := w) w.heap.size rfl (.tmp 89) (.tmp 90) 46 3 (.int .i64 0) 8 rfl Try.underlying46 info3 rfl (by decide) (by omega) u11 x11_4 4 [.int .i64 4] (fun k_ => some k_ ≠ (.slice Ao26 t583.length co26 : Value).ownBlock ∧ some k_ ≠ (.slice Ao27 t587.length co27 : Value).ownBlock ∧ some k_ ≠ (v611 : Value).ownBlock) (fun _ => False) rfl rfl ?aP (fun _ hk => hk.elim) ?aF ?aO ?aB ?aS ?aL ?_; (case aP => exact rfl); (case aB => exact (by repeat (first | (with_reducible first | exact HB.out | apply below_alloc | apply pw_below_drewN | apply below_drew1 | refine below_set ?_ GE579.out | refine below_set ?_ GE591.out) | exact HB.out))); (case aF => exact (fun k_ hk => ⟨Kd.fresh' (Kd.R_lt (by (with_reducible repeat (first | apply Kd.R_alloc | apply Kd.R_drewN | apply Kd.R_drew)); exact HO_592001.out)) k_ hk, Kd.fresh' (Kd.R_lt (by (with_reducible repeat (first | apply Kd.R_alloc | apply Kd.R_drewN | apply Kd.R_drew)); exact HO_592003.out)) k_ hk, Kd.fresh' (Kd.R_lt (by (with_reducible repeat (first | apply Kd.R_alloc | apply Kd.R_drewN | apply Kd.R_drew)); exact HO612.out)) k_ hk⟩)); (case aO => exact (by (with_reducible repeat (first | apply Kd.R_alloc | apply Kd.R_drewN | apply Kd.R_drew)); exact Kd.R_mono HO_11.out (fun _ hk => ⟨hk.1.1, ⟨hk.1.2, hk.2⟩⟩))); (case aS => exact (below_size (by repeat (first | (with_reducible first | exact HB.out | apply below_alloc | apply pw_below_drewN | apply below_drew1 | refine below_set ?_ GE579.out | refine below_set ?_ GE591.out) | exact HB.out)))); (case aL => have := LMc62.out; omega); intro v614 w67 ho hb hg hat; rw [← Ny613.out] at ho; have n0_ := Aside0.mk (Kd.R_over' (by (with_reducible repeat (first | apply Kd.R_alloc | apply Kd.R_drewN | apply Kd.R_drew)); exact HO_9.out) (Kd.R_typed (by (with_reducible repeat (first | apply Kd.R_alloc | apply Kd.R_drewN | apply Kd.R_drew)); exact HO_11.out)) (by decide) hg); have n1_ := Aside0.mk (Kd.R_after (ok := (fun k_ => some k_ ≠ (.slice Ao27 t587.length co27 : Value).ownBlock ∧ some k_ ≠ (v611 : Value).ownBlock)) (by (with_reducible repeat (first | apply Kd.R_alloc | apply Kd.R_drewN | apply Kd.R_drew)); exact Kd.R_mono HO_592001.out (fun _ hk => ⟨⟨hk.1.2, hk.2⟩, hk.1.1⟩)) hg hat); have n2_ := Aside0.mk (Kd.R_after (ok := (fun k_ => some k_ ≠ (.slice Ao26 t583.length co26 : Value).ownBlock ∧ some k_ ≠ (v611 : Value).ownBlock)) (by (with_reducible repeat (first | apply Kd.R_alloc | apply Kd.R_drewN | apply Kd.R_drew)); exact Kd.R_mono HO_592003.out (fun _ hk => ⟨⟨hk.1.2, hk.2⟩, hk.1.1⟩)) hg hat); have n3_ := Aside0.mk (blk_grown (g := gb579) (o := .cells #[.string a0_0, .bool a0_1, .int .i64 a0_2, .int .i64 a0_3, .slice A0_4 l0_4.length c0_4, .slice A0_5 l0_5.length c0_5] 31 (0, 0)) (by (with_reducible repeat (first | refine blk_drewN ?_ _ | refine blk_drew ?_ | refine blk_alloc ?_ _)); exact BK579.out) hg (Kd.R_ne HO_11.out BK579.out (by decide))); have n4_ := Aside0.mk (blk_grown (g := gb591) (o := .cells #[.int .i64 t582, .slice Ao26 t583.length co26, .int .i64 t586, .slice Ao27 t587.length co27] 67 (0, 0)) (by (with_reducible repeat (first | refine blk_drewN ?_ _ | refine blk_drew ?_ | refine blk_alloc ?_ _)); exact BK591.out) hg (Kd.R_ne HO_11.out BK591.out (by decide))); have n5_ := Aside0.mk (Kd.R_after (ok := (fun k_ => some k_ ≠ (.slice Ao26 t583.length co26 : Value).ownBlock ∧ some k_ ≠ (.slice Ao27 t587.length co27 : Value).ownBlock)) (by (with_reducible repeat (first | apply Kd.R_alloc | apply Kd.R_drewN | apply Kd.R_drew)); exact Kd.R_mono HO612.out (fun _ hk => ⟨⟨hk.2.1, hk.2.2⟩, hk.1⟩)) hg hat); have n6_ := Aside0.mk (hb); have n7_ := Aside0.mk (ho); clear HO_9; clear HO_592001; clear HO_592003; clear BK579; clear BK591; clear HO612; clear HB; clear HO_11; have HO_9 := n0_; have HO_592001 := n1_; have HO_592003 := n2_; have BK579 := n3_; have BK591 := n4_; have HO612 := n5_; have HB := n6_; have HO615 := n7_; clear n0_ n1_ n2_ n3_ n4_ n5_ n6_ n7_; clear ho hb hg hat))
                  go_roundg k4
                  case measure => have := HJ3.out; have := HJ19.out; have := HK3.out; have := HK4.out; omega
                  case rel => exact ⟨(y610), (y613), (wrap64 (x13_4 + 1)), (by first | rfl | (simp; done) | (simp [*]; done)), H', ⟨by have := HJ3.out; have := HJ19.out; have := HK3.out; have := HK4.out; omega⟩, ⟨by (with_reducible repeat (first | apply Kd.R_alloc | apply Kd.R_drewN | apply Kd.R_drew)); exact HO_9.out⟩, ⟨by (with_reducible repeat (first | apply Kd.R_alloc | apply Kd.R_drewN | apply Kd.R_drew)); exact Kd.R_mono HO612.out (fun _ hk => ⟨hk.2, ⟨hk.1.1, hk.1.2⟩⟩)⟩, ⟨by (with_reducible repeat (first | apply Kd.R_alloc | apply Kd.R_drewN | apply Kd.R_drew)); exact Kd.R_mono HO615.out (fun _ hk => ⟨hk.2.2, ⟨hk.1, hk.2.1⟩⟩)⟩, ⟨by (with_reducible repeat (first | apply Kd.R_alloc | apply Kd.R_drewN | apply Kd.R_drew)); exact Kd.R_mono HO_592001.out (fun _ hk => ⟨hk.1.2, ⟨hk.2, hk.1.1⟩⟩)⟩, ⟨by (with_reducible repeat (first | apply Kd.R_alloc | apply Kd.R_drewN | apply Kd.R_drew)); exact Kd.R_mono HO_592003.out (fun _ hk => ⟨hk.1.2, ⟨hk.2, hk.1.1⟩⟩)⟩, ⟨by (with_reducible repeat (first | refine blk_drewN ?_ _ | refine blk_drew ?_ | refine blk_alloc ?_ _)); exact BK579.out⟩, ⟨by (with_reducible repeat (first | refine blk_drewN ?_ _ | refine blk_drew ?_ | refine blk_alloc ?_ _)); exact BK591.out⟩, ⟨by repeat (first | (with_reducible first | exact HB.out | apply below_alloc | apply pw_below_drewN | apply below_drew1 | refine below_set ?_ GE579.out | refine below_set ?_ GE591.out) | exact HB.out)⟩⟩
                 ·
                  rw [if_neg c62] at H
                  exact absurd H (by simp)
                ·
                 rw [if_neg c61] at H
                 exact absurd H (by simp)
               ·
                rw [if_neg c59] at H
                have c59b0 : decide (x13_4 < a2) = false := decide_eq_false c59
                clear c59
                have H' := Aside0.mk H
                clear H
                go_wp2
                repeat (go_quiet (fail); try go_wp2)
                go_loopg [10, 11, 14] k4 (fun kq v10 v11 v14 w' => ∃ (x10_5 : List Int) (x11_5 : List Int) (x14_5 : Int), v14 = .int .i64 x14_5 ∧ Aside0 (rushlightlaw25_FrameApart.l2 kq y593 x10_5 x11_5 x14_5 a0_0 a0_1 a0_2 a0_3 l0_4 l0_5 t582 t583 t586 t587 = some r) ∧ Aside0 (kq ≤ k4) ∧ Aside0 (Kd.R Kd.bool 4 w' w.heap.size (fun _ => True) v594 y593) ∧ Aside0 (Kd.R (Kd.int .i64) 3 w' w.heap.size (fun k_ => some k_ ≠ (v11 : Value).ownBlock ∧ some k_ ≠ ((.slice Ao26 t583.length co26) : Value).ownBlock ∧ some k_ ≠ ((.slice Ao27 t587.length co27) : Value).ownBlock) v10 x10_5) ∧ Aside0 (Kd.R (Kd.int .i64) 3 w' w.heap.size (fun k_ => some k_ ≠ (v10 : Value).ownBlock ∧ some k_ ≠ ((.slice Ao26 t583.length co26) : Value).ownBlock ∧ some k_ ≠ ((.slice Ao27 t587.length co27) : Value).ownBlock) v11 x11_5) ∧ Aside0 (Kd.R (Kd.int .i64) 3 w' w.heap.size (fun k_ => some k_ ≠ (v10 : Value).ownBlock ∧ some k_ ≠ (v11 : Value).ownBlock ∧ some k_ ≠ ((.slice Ao27 t587.length co27) : Value).ownBlock) (.slice Ao26 t583.length co26) t583) ∧ Aside0 (Kd.R (Kd.int .i64) 3 w' w.heap.size (fun k_ => some k_ ≠ (v10 : Value).ownBlock ∧ some k_ ≠ (v11 : Value).ownBlock ∧ some k_ ≠ ((.slice Ao26 t583.length co26) : Value).ownBlock) (.slice Ao27 t587.length co27) t587) ∧ Aside0 (w'.heap[gb579]? = some (.cells #[.string a0_0, .bool a0_1, .int .i64 a0_2, .int .i64 a0_3, (.slice A0_4 l0_4.length c0_4), (.slice A0_5 l0_5.length c0_5)] 31 (0, 0))) ∧ Aside0 (w'.heap[gb591]? = some (.cells #[.int .i64 t582, (.slice Ao26 t583.length co26), .int .i64 t586, (.slice Ao27 t587.length co27)] 67 (0, 0))) ∧ Aside0 (Below w.heap.size w w'))
                case atStart => exact ⟨(x10_4), (x11_4), (0), (by first | rfl | (simp; done) | (simp [*]; done)), H', ⟨Nat.le_refl _⟩, ⟨by (with_reducible repeat (first | apply Kd.R_alloc | apply Kd.R_drewN | apply Kd.R_drew)); exact HO_9.out⟩, ⟨by (with_reducible repeat (first | apply Kd.R_alloc | apply Kd.R_drewN | apply Kd.R_drew)); exact HO_10.out⟩, ⟨by (with_reducible repeat (first | apply Kd.R_alloc | apply Kd.R_drewN | apply Kd.R_drew)); exact HO_11.out⟩, ⟨by (with_reducible repeat (first | apply Kd.R_alloc | apply Kd.R_drewN | apply Kd.R_drew)); exact HO_592001.out⟩, ⟨by (with_reducible repeat (first | apply Kd.R_alloc | apply Kd.R_drewN | apply Kd.R_drew)); exact HO_592003.out⟩, ⟨by (with_reducible repeat (first | refine blk_drewN ?_ _ | refine blk_drew ?_ | refine blk_alloc ?_ _)); exact BK579.out⟩, ⟨by (with_reducible repeat (first | refine blk_drewN ?_ _ | refine blk_drew ?_ | refine blk_alloc ?_ _)); exact BK591.out⟩, ⟨by repeat (first | (with_reducible first | exact HB.out | apply below_alloc | apply pw_below_drewN | apply below_drew1 | refine below_set ?_ GE579.out | refine below_set ?_ GE591.out) | exact HB.out)⟩⟩
                case round =>
                 clear H'
                 try clear c1
                 try clear c2
                 try clear p2
                 try clear c3
                 try clear c4
                 try clear c5
                 try clear c6
                 try clear p6
                 try clear c7
                 try clear c8
                 try clear c8b0
                 try clear c9
                 try clear c15
                 try clear c19
                 try clear c19b0
                 try clear c19b1
                 try clear c24
                 try clear c28
                 try clear c28b0
                 try clear c29
                 try clear c31
                 try clear c31b0
                 try clear c32
                 try clear c34
                 try clear c37
                 try clear c38
                 try clear c38b0
                 try clear c38b1
                 try clear c39
                 try clear c39b0
                 try clear c39b1
                 try clear c40
                 try clear c48
                 try clear c48b0
                 try clear c50
                 try clear c51
                 try clear c52
                 try clear c57
                 try clear c59
                 try clear c59b0
                 try clear c61
                 try clear c62
                 try clear c63
                 try clear p64
                 try clear hcz11_0
                 try clear hcz11_1
                 try clear hcz11_2
                 try clear hcz11_3
                 try clear hcz11_4
                 try clear hcz11_5
                 try clear hcz13_0
                 try clear hcz13_1
                 try clear hcz13_2
                 try clear hcz13_3
                 try clear hcz13_4
                 try clear hcz13_5
                 try clear hcz21_0
                 try clear hcz21_1
                 try clear hcz21_2
                 try clear hcz21_3
                 try clear hcz21_4
                 try clear hcz21_5
                 try clear hcz25_0
                 try clear hcz25_1
                 try clear hcz25_2
                 try clear hcz25_3
                 try clear hcz30_0
                 try clear hcz30_1
                 try clear hcz30_2
                 try clear hcz30_3
                 try clear hcz33_0
                 try clear hcz33_1
                 try clear hcz33_2
                 try clear hcz33_3
                 try clear hcz35_0
                 try clear hcz35_1
                 try clear hcz35_2
                 try clear hcz35_3
                 try clear hcz36_0
                 try clear hcz36_1
                 try clear hcz36_2
                 try clear hcz36_3
                 try clear hcz36_4
                 try clear hcz36_5
                 try clear hcz41_0
                 try clear hcz41_1
                 try clear hcz41_2
                 try clear hcz41_3
                 try clear hcz53_0
                 try clear hcz53_1
                 try clear hcz53_2
                 try clear hcz53_3
                 try clear hcz58_0
                 try clear hcz58_1
                 try clear hcz58_2
                 try clear hcz58_3
                 try clear hcz64_0
                 try clear hcz64_1
                 try clear hcz64_2
                 try clear hcz64_3
                 try clear hcz9_0
                 try clear hcz9_1
                 try clear hcz9_2
                 try clear hcz9_3
                 try clear hcz9_4
                 try clear hcz9_5
                 try clear hfz11_0
                 try clear hfz11_1
                 try clear hfz11_2
                 try clear hfz11_3
                 try clear hfz11_4
                 try clear hfz11_5
                 try clear hfz13_0
                 try clear hfz13_1
                 try clear hfz13_2
                 try clear hfz13_3
                 try clear hfz13_4
                 try clear hfz13_5
                 try clear hfz21_0
                 try clear hfz21_1
                 try clear hfz21_2
                 try clear hfz21_3
                 try clear hfz21_4
                 try clear hfz21_5
                 try clear hfz25_0
                 try clear hfz25_1
                 try clear hfz25_2
                 try clear hfz25_3
                 try clear hfz30_0
                 try clear hfz30_1
                 try clear hfz30_2
                 try clear hfz30_3
                 try clear hfz33_0
                 try clear hfz33_1
                 try clear hfz33_2
                 try clear hfz33_3
                 try clear hfz35_0
                 try clear hfz35_1
                 try clear hfz35_2
                 try clear hfz35_3
                 try clear hfz36_0
                 try clear hfz36_1
                 try clear hfz36_2
                 try clear hfz36_3
                 try clear hfz36_4
                 try clear hfz36_5
                 try clear hfz41_0
                 try clear hfz41_1
                 try clear hfz41_2
                 try clear hfz41_3
                 try clear hfz53_0
                 try clear hfz53_1
                 try clear hfz53_2
                 try clear hfz53_3
                 try clear hfz58_0
                 try clear hfz58_1
                 try clear hfz58_2
                 try clear hfz58_3
                 try clear hfz64_0
                 try clear hfz64_1
                 try clear hfz64_2
                 try clear hfz64_3
                 try clear hfz9_0
                 try clear hfz9_1
                 try clear hfz9_2
                 try clear hfz9_3
                 try clear hfz9_4
                 try clear hfz9_5
                 try clear p2
                 try clear p6
                 obtain ⟨x10_5, x11_5, x14_5, rfl, HA, HK5, HO_9, HO_10, HO_11, HO_592001, HO_592003, BK579, BK591, HB⟩ := hrel
                 cases gk with
                 | zero => exact absurd HA.out (by simp [rushlightlaw25_FrameApart.l2])
                 | succ k5 =>
                  have H := HA.out
                  clear HA
                  simp only [rushlightlaw25_FrameApart.l2] at H
                  by_cases c68 : x14_5 < (t587.length : Int)
                  ·
                   rw [if_pos c68] at H
                   have c68b0 : decide (x14_5 < (t587.length : Int)) = true := decide_eq_true c68
                   clear c68
                   by_cases c69 : 0 ≤ x14_5
                   ·
                    rw [if_pos c69] at H
                    have c69b0 : decide (0 ≤ x14_5) = true := decide_eq_true c69
                    clear c69
                    by_cases c70 : x10_5.length < 17592186044416
                    ·
                     rw [if_pos c70] at H
                     have LMc70 := Aside0.mk c70
                     clear c70
                     obtain ⟨y617, hy617⟩ : ∃ y_ : List Int, y_ = (x10_5 ++ [rd t587 x14_5]) := ⟨_, rfl⟩
                     replace H : (if x14_5 < (l0_4.length : Int) then (if x11_5.length < 17592186044416 then (rushlightlaw25_FrameApart.l2 k5 y593 y617 (x11_5 ++ [(rd_T76 l0_4 x14_5).f1]) (wrap64 (x14_5 + 1)) a0_0 a0_1 a0_2 a0_3 l0_4 l0_5 t582 t583 t586 t587) else (none)) else (none)) = some r := by first | (rw [hy617]; with_reducible exact H) | (have H2_ := (Option.bind_some _ _).symm.trans H; rw [hy617]; with_reducible exact H2_) | (have H2_ := (Option.bind_some _ _).symm.trans H; with_reducible exact H2_) | with_reducible exact H | (rw [hy617]; exact H) | exact H
                     have Ny617 := Aside0.mk hy617
                     clear hy617
                     by_cases c71 : x14_5 < (l0_4.length : Int)
                     ·
                      rw [if_pos c71] at H
                      have c71b0 : decide (x14_5 < (l0_4.length : Int)) = true := decide_eq_true c71
                      clear c71
                      by_cases c72 : x11_5.length < 17592186044416
                      ·
                       rw [if_pos c72] at H
                       have LMc72 := Aside0.mk c72
                       clear c72
                       obtain ⟨y621, hy621⟩ : ∃ y_ : List Int, y_ = (x11_5 ++ [(rd_T76 l0_4 x14_5).f1]) := ⟨_, rfl⟩
                       replace H : (rushlightlaw25_FrameApart.l2 k5 y593 y617 y621 (wrap64 (x14_5 + 1)) a0_0 a0_1 a0_2 a0_3 l0_4 l0_5 t582 t583 t586 t587) = some r := by first | (rw [hy621]; with_reducible exact H) | (have H2_ := (Option.bind_some _ _).symm.trans H; rw [hy621]; with_reducible exact H2_) | (have H2_ := (Option.bind_some _ _).symm.trans H; with_reducible exact H2_) | with_reducible exact H | (rw [hy621]; exact H) | exact H
                       have Ny621 := Aside0.mk hy621
                       clear hy621
                       have H' := Aside0.mk H
                       clear H
                       have hnb73 := NB591_579.out
                       have hnc73 := NB579_591.out
                       have hcz74_0 : wr.cell? ⟨gb591, 0, none⟩ = some (.int .i64 t582) := (blk_cell BK591.out 0).trans rfl
                       have hcz74_1 : wr.cell? ⟨gb591, 1, none⟩ = some (.slice Ao26 t583.length co26) := (blk_cell BK591.out 1).trans rfl
                       have hcz74_2 : wr.cell? ⟨gb591, 2, none⟩ = some (.int .i64 t586) := (blk_cell BK591.out 2).trans rfl
                       have hcz74_3 : wr.cell? ⟨gb591, 3, none⟩ = some (.slice Ao27 t587.length co27) := (blk_cell BK591.out 3).trans rfl
                       have hfz74_0 := blk_frozen BK591.out 0
                       have hfz74_1 := blk_frozen BK591.out 1
                       have hfz74_2 := blk_frozen BK591.out 2
                       have hfz74_3 := blk_frozen BK591.out 3
                       have p616 : 0 ≤ (x14_5 : Int) := of_decide_eq_true (by first | (with_reducible assumption) | assumption)
                       have q616 : x14_5 < (t587.length : Int) := of_decide_eq_true (by first | (with_reducible assumption) | assumption)
                       obtain ⟨ad616, e616, hx616_0⟩ := Kd.at_int (Kd.R_reads' HO_592003.out).2.2 x14_5 p616 q616
                       cases e616
                       replace p616 := eq_true p616
                       replace q616 := eq_true q616
                       go_wp2_with (first | ((with_reducible refine gate_builtin (b := .append) (xs := #[.tmp 99, .tmp 105]) rfl ?_); (try (refine gate_guard (by rfl) ?_; dsimp only)); at_builtin; refine Kd.R_append (Kd.int .i64) (w0 := w) w.heap.size rfl (.tmp 99) (.tmp 105) 46 3 (.int .i64 0) 8 rfl Try.underlying46 info3 rfl (by decide) (by omega) u10 x10_5 (rd t587 x14_5) [.int .i64 (rd t587 x14_5)] (fun k_ => some k_ ≠ (u11 : Value).ownBlock ∧ some k_ ≠ (.slice Ao26 t583.length co26 : Value).ownBlock ∧ some k_ ≠ (.slice (some ad616) t587.length co27 : Value).ownBlock) (fun _ => False) rfl rfl ?aP (fun _ hk => hk.elim) ?aF ?aO ?aB ?aS ?aL ?_; (case aP => exact rfl); (case aB => exact (by repeat (first | (with_reducible first | exact HB.out | apply below_alloc | apply pw_below_drewN | apply below_drew1 | refine below_set ?_ GE579.out | refine below_set ?_ GE591.out) | exact HB.out))); (case aF => exact (fun k_ hk => ⟨Kd.fresh' (Kd.R_lt (by (with_reducible repeat (first | apply Kd.R_alloc | apply Kd.R_drewN | apply Kd.R_drew)); exact HO_11.out)) k_ hk, Kd.fresh' (Kd.R_lt (by (with_reducible repeat (first | apply Kd.R_alloc | apply Kd.R_drewN | apply Kd.R_drew)); exact HO_592001.out)) k_ hk, Kd.fresh' (Kd.R_lt (by (with_reducible repeat (first | apply Kd.R_alloc | apply Kd.R_drewN | apply Kd.R_drew)); exact HO_592003.out)) k_ hk⟩)); (case aO => exact (by (with_reducible repeat (first | apply Kd.R_alloc | apply Kd.R_drewN | apply Kd.R_drew)); exact HO_10.out)); (case aS => exact (below_size (by repeat (first | (with_reducible first | exact HB.out | apply below_alloc | apply pw_below_drewN | apply below_drew1 | refine below_set ?_ GE579.out | refine below_set ?_ GE591.out) | exact HB.out)))); (case aL => have := LMc70.out; omega); intro v618 w75 ho hb hg hat; rw [← Ny617.out] at ho; have n0_ := Aside0.mk (Kd.R_over' (by (with_reducible repeat (first | apply Kd.R_alloc | apply Kd.R_drewN | apply Kd.R_drew)); exact HO_9.out) (Kd.R_typed (by (with_reducible repeat (first | apply Kd.R_alloc | apply Kd.R_drewN | apply Kd.R_drew)); exact HO_10.out)) (by decide) hg); have n1_ := Aside0.mk (Kd.R_after (ok := (fun k_ => some k_ ≠ (.slice Ao26 t583.length co26 : Value).ownBlock ∧ some k_ ≠ (.slice (some ad616) t587.length co27 : Value).ownBlock)) (by (with_reducible repeat (first | apply Kd.R_alloc | apply Kd.R_drewN | apply Kd.R_drew)); exact Kd.R_mono HO_11.out (fun _ hk => ⟨⟨hk.2.1, hk.2.2⟩, hk.1⟩)) hg hat); have n2_ := Aside0.mk (Kd.R_after (ok := (fun k_ => some k_ ≠ (u11 : Value).ownBlock ∧ some k_ ≠ (.slice (some ad616) t587.length co27 : Value).ownBlock)) (by (with_reducible repeat (first | apply Kd.R_alloc | apply Kd.R_drewN | apply Kd.R_drew)); exact Kd.R_mono HO_592001.out (fun _ hk => ⟨⟨hk.2.1, hk.2.2⟩, hk.1⟩)) hg hat); have n3_ := Aside0.mk (Kd.R_after (ok := (fun k_ => some k_ ≠ (u11 : Value).ownBlock ∧ some k_ ≠ (.slice Ao26 t583.length co26 : Value).ownBlock)) (by (with_reducible repeat (first | apply Kd.R_alloc | apply Kd.R_drewN | apply Kd.R_drew)); exact Kd.R_mono HO_592003.out (fun _ hk => ⟨⟨hk.2.1, hk.2.2⟩, hk.1⟩)) hg hat); have n4_ := Aside0.mk (blk_grown (g := gb579) (o := .cells #[.string a0_0, .bool a0_1, .int .i64 a0_2, .int .i64 a0_3, .slice A0_4 l0_4.length c0_4, .slice A0_5 l0_5.length c0_5] 31 (0, 0)) (by (with_reducible repeat (first | refine blk_drewN ?_ _ | refine blk_drew ?_ | refine blk_alloc ?_ _)); exact BK579.out) hg (Kd.R_ne HO_10.out BK579.out (by decide))); have n5_ := Aside0.mk (blk_grown (g := gb591) (o := .cells #[.int .i64 t582, .slice Ao26 t583.length co26, .int .i64 t586, .slice (some ad616) t587.length co27] 67 (0, 0)) (by (with_reducible repeat (first | refine blk_drewN ?_ _ | refine blk_drew ?_ | refine blk_alloc ?_ _)); exact BK591.out) hg (Kd.R_ne HO_10.out BK591.out (by decide))); have n6_ := Aside0.mk (hb); have n7_ := Aside0.mk (ho); clear HO_9; clear HO_11; clear HO_592001; clear HO_592003; clear BK579; clear BK591; clear HB; clear HO_10; have HO_9 := n0_; have HO_11 := n1_; have HO_592001 := n2_; have HO_592003 := n3_; have BK579 := n4_; have BK591 := n5_; have HB := n6_; have HO619 := n7_; clear n0_ n1_ n2_ n3_ n4_ n5_ n6_ n7_; clear ho hb hg hat; have hcz76_0 : w75.cell? ⟨gb579, 0, none⟩ = some (.string a0_0) := (blk_cell BK579.out 0).trans rfl; have hcz76_1 : w75.cell? ⟨gb579, 1, none⟩ = some (.bool a0_1) := (blk_cell BK579.out 1).trans rfl; have hcz76_2 : w75.cell? ⟨gb579, 2, none⟩ = some (.int .i64 a0_2) := (blk_cell BK579.out 2).trans rfl; have hcz76_3 : w75.cell? ⟨gb579, 3, none⟩ = some (.int .i64 a0_3) := (blk_cell BK579.out 3).trans rfl; have hcz76_4 : w75.cell? ⟨gb579, 4, none⟩ = some (.slice A0_4 l0_4.length c0_4) := (blk_cell BK579.out 4).trans rfl; have hcz76_5 : w75.cell? ⟨gb579, 5, none⟩ = some (.slice A0_5 l0_5.length c0_5) := (blk_cell BK579.out 5).trans rfl; have hfz76_0 := blk_frozen BK579.out 0; have hfz76_1 := blk_frozen BK579.out 1; have hfz76_2 := blk_frozen BK579.out 2; have hfz76_3 := blk_frozen BK579.out 3; have hfz76_4 := blk_frozen BK579.out 4; have hfz76_5 := blk_frozen BK579.out 5; have p620 : 0 ≤ (x14_5 : Int) := of_decide_eq_true (by first | (with_reducible assumption) | assumption); have q620 : x14_5 < (l0_4.length : Int) := of_decide_eq_true (by first | (with_reducible assumption) | assumption); obtain ⟨ad620, e620, hx620_0, hx620_1, hx620_2, hx620_3⟩ := at_T76 HR0_4.out x14_5 p620 q620; cases e620; replace hx620_0 := (HB.out.cell (World.block_lt_of_cell? w _ hx620_0)).trans hx620_0; replace hx620_1 := (HB.out.cell (World.block_lt_of_cell? w _ hx620_1)).trans hx620_1; replace hx620_2 := (HB.out.cell (World.block_lt_of_cell? w _ hx620_2)).trans hx620_2; replace hx620_3 := (HB.out.cell (World.block_lt_of_cell? w _ hx620_3)).trans hx620_3; replace p620 := eq_true p620; replace q620 := eq_true q620) | ((with_reducible refine gate_builtin (b := .append) (xs := #[.tmp 107, .tmp 114]) rfl ?_); (try (refine gate_guard (by rfl) ?_; dsimp only)); at_builtin; refine Kd.R_append (Kd.int .i64) (w0 := w) w.heap.size rfl (.tmp 107) (.tmp 114) 46 3 (.int .i64 0) 8 rfl Try.underlying46 info3 rfl (by decide) (by omega) u11 x11_5 ((rd_T76 l0_4 x14_5).f1) [.int .i64 ((rd_T76 l0_4 x14_5).f1)] (fun k_ => some k_ ≠ (.slice Ao26 t583.length co26 : Value).ownBlock ∧ some k_ ≠ (.slice (some ad616) t587.length co27 : Value).ownBlock ∧ some k_ ≠ (v618 : Value).ownBlock) (fun _ => False) rfl rfl ?aP (fun _ hk => hk.elim) ?aF ?aO ?aB ?aS ?aL ?_; (case aP => exact rfl); (case aB => exact (by repeat (first | (with_reducible first | exact HB.out | apply below_alloc | apply pw_below_drewN | apply below_drew1 | refine below_set ?_ GE579.out | refine below_set ?_ GE591.out) | exact HB.out))); (case aF => exact (fun k_ hk => ⟨Kd.fresh' (Kd.R_lt (by (with_reducible repeat (first | apply Kd.R_alloc | apply Kd.R_drewN | apply Kd.R_drew)); exact HO_592001.out)) k_ hk, Kd.fresh' (Kd.R_lt (by (with_reducible repeat (first | apply Kd.R_alloc | apply Kd.R_drewN | apply Kd.R_drew)); exact HO_592003.out)) k_ hk, Kd.fresh' (Kd.R_lt (by (with_reducible repeat (first | apply Kd.R_alloc | apply Kd.R_drewN | apply Kd.R_drew)); exact HO619.out)) k_ hk⟩)); (case aO => exact (by (with_reducible repeat (first | apply Kd.R_alloc | apply Kd.R_drewN | apply Kd.R_drew)); exact Kd.R_mono HO_11.out (fun _ hk => ⟨hk.1.1, ⟨hk.1.2, hk.2⟩⟩))); (case aS => exact (below_size (by repeat (first | (with_reducible first | exact HB.out | apply below_alloc | apply pw_below_drewN | apply below_drew1 | refine below_set ?_ GE579.out | refine below_set ?_ GE591.out) | exact HB.out)))); (case aL => have := LMc72.out; omega); intro v622 w77 ho hb hg hat; rw [← Ny621.out] at ho; have n0_ := Aside0.mk (Kd.R_over' (by (with_reducible repeat (first | apply Kd.R_alloc | apply Kd.R_drewN | apply Kd.R_drew)); exact HO_9.out) (Kd.R_typed (by (with_reducible repeat (first | apply Kd.R_alloc | apply Kd.R_drewN | apply Kd.R_drew)); exact HO_11.out)) (by decide) hg); have n1_ := Aside0.mk (Kd.R_after (ok := (fun k_ => some k_ ≠ (.slice (some ad616) t587.length co27 : Value).ownBlock ∧ some k_ ≠ (v618 : Value).ownBlock)) (by (with_reducible repeat (first | apply Kd.R_alloc | apply Kd.R_drewN | apply Kd.R_drew)); exact Kd.R_mono HO_592001.out (fun _ hk => ⟨⟨hk.1.2, hk.2⟩, hk.1.1⟩)) hg hat); have n2_ := Aside0.mk (Kd.R_after (ok := (fun k_ => some k_ ≠ (.slice Ao26 t583.length co26 : Value).ownBlock ∧ some k_ ≠ (v618 : Value).ownBlock)) (by (with_reducible repeat (first | apply Kd.R_alloc | apply Kd.R_drewN | apply Kd.R_drew)); exact Kd.R_mono HO_592003.out (fun _ hk => ⟨⟨hk.1.2, hk.2⟩, hk.1.1⟩)) hg hat); have n3_ := Aside0.mk (blk_grown (g := gb579) (o := .cells #[.string a0_0, .bool a0_1, .int .i64 a0_2, .int .i64 a0_3, .slice (some ad620) l0_4.length c0_4, .slice A0_5 l0_5.length c0_5] 31 (0, 0)) (by (with_reducible repeat (first | refine blk_drewN ?_ _ | refine blk_drew ?_ | refine blk_alloc ?_ _)); exact BK579.out) hg (Kd.R_ne HO_11.out BK579.out (by decide))); have n4_ := Aside0.mk (blk_grown (g := gb591) (o := .cells #[.int .i64 t582, .slice Ao26 t583.length co26, .int .i64 t586, .slice (some ad616) t587.length co27] 67 (0, 0)) (by (with_reducible repeat (first | refine blk_drewN ?_ _ | refine blk_drew ?_ | refine blk_alloc ?_ _)); exact BK591.out) hg (Kd.R_ne HO_11.out BK591.out (by decide))); have n5_ := Aside0.mk (Kd.R_after (ok := (fun k_ => some k_ ≠ (.slice Ao26 t583.length co26 : Value).ownBlock ∧ some k_ ≠ (.slice (some ad616) t587.length co27 : Value).ownBlock)) (by (with_reducible repeat (first | apply Kd.R_alloc | apply Kd.R_drewN | apply Kd.R_drew)); exact Kd.R_mono HO619.out (fun _ hk => ⟨⟨hk.2.1, hk.2.2⟩, hk.1⟩)) hg hat); have n6_ := Aside0.mk (hb); have n7_ := Aside0.mk (ho); clear HO_9; clear HO_592001; clear HO_592003; clear BK579; clear BK591; clear HO619; clear HB; clear HO_11; have HO_9 := n0_; have HO_592001 := n1_; have HO_592003 := n2_; have BK579 := n3_; have BK591 := n4_; have HO619 := n5_; have HB := n6_; have HO623 := n7_; clear n0_ n1_ n2_ n3_ n4_ n5_ n6_ n7_; clear ho hb hg hat))
                       go_roundg k5
                       case measure => have := HJ3.out; have := HJ19.out; have := HK3.out; have := HK4.out; have := HK5.out; omega
                       case rel => exact ⟨(y617), (y621), (wrap64 (x14_5 + 1)), (by first | rfl | (simp; done) | (simp [*]; done)), H', ⟨by have := HJ3.out; have := HJ19.out; have := HK3.out; have := HK4.out; have := HK5.out; omega⟩, ⟨by (with_reducible repeat (first | apply Kd.R_alloc | apply Kd.R_drewN | apply Kd.R_drew)); exact HO_9.out⟩, ⟨by (with_reducible repeat (first | apply Kd.R_alloc | apply Kd.R_drewN | apply Kd.R_drew)); exact Kd.R_mono HO619.out (fun _ hk => ⟨hk.2, ⟨hk.1.1, hk.1.2⟩⟩)⟩, ⟨by (with_reducible repeat (first | apply Kd.R_alloc | apply Kd.R_drewN | apply Kd.R_drew)); exact Kd.R_mono HO623.out (fun _ hk => ⟨hk.2.2, ⟨hk.1, hk.2.1⟩⟩)⟩, ⟨by (with_reducible repeat (first | apply Kd.R_alloc | apply Kd.R_drewN | apply Kd.R_drew)); exact Kd.R_mono HO_592001.out (fun _ hk => ⟨hk.1.2, ⟨hk.2, hk.1.1⟩⟩)⟩, ⟨by (with_reducible repeat (first | apply Kd.R_alloc | apply Kd.R_drewN | apply Kd.R_drew)); exact Kd.R_mono HO_592003.out (fun _ hk => ⟨hk.1.2, ⟨hk.2, hk.1.1⟩⟩)⟩, ⟨by (with_reducible repeat (first | refine blk_drewN ?_ _ | refine blk_drew ?_ | refine blk_alloc ?_ _)); exact BK579.out⟩, ⟨by (with_reducible repeat (first | refine blk_drewN ?_ _ | refine blk_drew ?_ | refine blk_alloc ?_ _)); exact BK591.out⟩, ⟨by repeat (first | (with_reducible first | exact HB.out | apply below_alloc | apply pw_below_drewN | apply below_drew1 | refine below_set ?_ GE579.out | refine below_set ?_ GE591.out) | exact HB.out)⟩⟩
                      ·
                       rw [if_neg c72] at H
                       exact absurd H (by simp)
                     ·
                      rw [if_neg c71] at H
                      exact absurd H (by simp)
                    ·
                     rw [if_neg c70] at H
                     exact absurd H (by simp)
                   ·
                    rw [if_neg c69] at H
                    exact absurd H (by simp)
                  ·
                   rw [if_neg c68] at H
                   have c68b0 : decide (x14_5 < (t587.length : Int)) = false := decide_eq_false c68
                   clear c68
                   have H' := Aside0.mk H
                   clear H
                   have hnb78 := NB591_579.out
                   have hnc78 := NB579_591.out
                   have hcz79_0 : wr.cell? ⟨gb591, 0, none⟩ = some (.int .i64 t582) := (blk_cell BK591.out 0).trans rfl
                   have hcz79_1 : wr.cell? ⟨gb591, 1, none⟩ = some (.slice Ao26 t583.length co26) := (blk_cell BK591.out 1).trans rfl
                   have hcz79_2 : wr.cell? ⟨gb591, 2, none⟩ = some (.int .i64 t586) := (blk_cell BK591.out 2).trans rfl
                   have hcz79_3 : wr.cell? ⟨gb591, 3, none⟩ = some (.slice Ao27 t587.length co27) := (blk_cell BK591.out 3).trans rfl
                   have hfz79_0 := blk_frozen BK591.out 0
                   have hfz79_1 := blk_frozen BK591.out 1
                   have hfz79_2 := blk_frozen BK591.out 2
                   have hfz79_3 := blk_frozen BK591.out 3
                   go_wp2
                   repeat (go_quiet (fail); try go_wp2)
                   go_loopg [15] k5 (fun kq v15 w' => ∃ (x9_6 : List Bool) (x15_6 : Int), v15 = .int .i64 x15_6 ∧ Aside0 (rushlightlaw25_FrameApart.l3 kq x9_6 x10_5 x11_5 x15_6 t582 t583 t586 t587 = some r) ∧ Aside0 (kq ≤ k5) ∧ Aside0 (Kd.R Kd.bool 4 w' w.heap.size (fun _ => True) v594 x9_6) ∧ Aside0 (Kd.R (Kd.int .i64) 3 w' w.heap.size (fun k_ => some k_ ≠ (u11 : Value).ownBlock ∧ some k_ ≠ ((.slice Ao26 t583.length co26) : Value).ownBlock ∧ some k_ ≠ ((.slice Ao27 t587.length co27) : Value).ownBlock) u10 x10_5) ∧ Aside0 (Kd.R (Kd.int .i64) 3 w' w.heap.size (fun k_ => some k_ ≠ (u10 : Value).ownBlock ∧ some k_ ≠ ((.slice Ao26 t583.length co26) : Value).ownBlock ∧ some k_ ≠ ((.slice Ao27 t587.length co27) : Value).ownBlock) u11 x11_5) ∧ Aside0 (Kd.R (Kd.int .i64) 3 w' w.heap.size (fun k_ => some k_ ≠ (u10 : Value).ownBlock ∧ some k_ ≠ (u11 : Value).ownBlock ∧ some k_ ≠ ((.slice Ao27 t587.length co27) : Value).ownBlock) (.slice Ao26 t583.length co26) t583) ∧ Aside0 (Kd.R (Kd.int .i64) 3 w' w.heap.size (fun k_ => some k_ ≠ (u10 : Value).ownBlock ∧ some k_ ≠ (u11 : Value).ownBlock ∧ some k_ ≠ ((.slice Ao26 t583.length co26) : Value).ownBlock) (.slice Ao27 t587.length co27) t587) ∧ Aside0 (w'.heap[gb579]? = some (.cells #[.string a0_0, .bool a0_1, .int .i64 a0_2, .int .i64 a0_3, (.slice A0_4 l0_4.length c0_4), (.slice A0_5 l0_5.length c0_5)] 31 (0, 0))) ∧ Aside0 (w'.heap[gb591]? = some (.cells #[.int .i64 t582, (.slice Ao26 t583.length co26), .int .i64 t586, (.slice Ao27 t587.length co27)] 67 (0, 0))) ∧ Aside0 (Below w.heap.size w w'))
                   case atStart => exact ⟨(y593), (0), (by first | rfl | (simp; done) | (simp [*]; done)), H', ⟨Nat.le_refl _⟩, ⟨by (with_reducible repeat (first | apply Kd.R_alloc | apply Kd.R_drewN | apply Kd.R_drew)); exact HO_9.out⟩, ⟨by (with_reducible repeat (first | apply Kd.R_alloc | apply Kd.R_drewN | apply Kd.R_drew)); exact HO_10.out⟩, ⟨by (with_reducible repeat (first | apply Kd.R_alloc | apply Kd.R_drewN | apply Kd.R_drew)); exact HO_11.out⟩, ⟨by (with_reducible repeat (first | apply Kd.R_alloc | apply Kd.R_drewN | apply Kd.R_drew)); exact HO_592001.out⟩, ⟨by (with_reducible repeat (first | apply Kd.R_alloc | apply Kd.R_drewN | apply Kd.R_drew)); exact HO_592003.out⟩, ⟨by (with_reducible repeat (first | refine blk_drewN ?_ _ | refine blk_drew ?_ | refine blk_alloc ?_ _)); exact BK579.out⟩, ⟨by (with_reducible repeat (first | refine blk_drewN ?_ _ | refine blk_drew ?_ | refine blk_alloc ?_ _)); exact BK591.out⟩, ⟨by repeat (first | (with_reducible first | exact HB.out | apply below_alloc | apply pw_below_drewN | apply below_drew1 | refine below_set ?_ GE579.out | refine below_set ?_ GE591.out) | exact HB.out)⟩⟩
                   case round =>
                    clear H'
                    try clear c1
                    try clear c2
                    try clear p2
                    try clear c3
                    try clear c4
                    try clear c5
                    try clear c6
                    try clear p6
                    try clear q6
                    try clear hx6
                    try clear c7
                    try clear c8
                    try clear c8b0
                    try clear c9
                    try clear c15
                    try clear c19
                    try clear c19b0
                    try clear c19b1
                    try clear c24
                    try clear c28
                    try clear c28b0
                    try clear c29
                    try clear c31
                    try clear c31b0
                    try clear c32
                    try clear c34
                    try clear c37
                    try clear c38
                    try clear c38b0
                    try clear c38b1
                    try clear c39
                    try clear c39b0
                    try clear c39b1
                    try clear c40
                    try clear c48
                    try clear c48b0
                    try clear c50
                    try clear c51
                    try clear c52
                    try clear c57
                    try clear c59
                    try clear c59b0
                    try clear c61
                    try clear p61
                    try clear q61
                    try clear hx61
                    try clear c62
                    try clear p62
                    try clear q62
                    try clear hx62
                    try clear c63
                    try clear p64
                    try clear c68
                    try clear c68b0
                    try clear c69
                    try clear c69b0
                    try clear c70
                    try clear c71
                    try clear c71b0
                    try clear c72
                    try clear c73
                    try clear c78
                    try clear hcz11_0
                    try clear hcz11_1
                    try clear hcz11_2
                    try clear hcz11_3
                    try clear hcz11_4
                    try clear hcz11_5
                    try clear hcz13_0
                    try clear hcz13_1
                    try clear hcz13_2
                    try clear hcz13_3
                    try clear hcz13_4
                    try clear hcz13_5
                    try clear hcz21_0
                    try clear hcz21_1
                    try clear hcz21_2
                    try clear hcz21_3
                    try clear hcz21_4
                    try clear hcz21_5
                    try clear hcz25_0
                    try clear hcz25_1
                    try clear hcz25_2
                    try clear hcz25_3
                    try clear hcz30_0
                    try clear hcz30_1
                    try clear hcz30_2
                    try clear hcz30_3
                    try clear hcz33_0
                    try clear hcz33_1
                    try clear hcz33_2
                    try clear hcz33_3
                    try clear hcz35_0
                    try clear hcz35_1
                    try clear hcz35_2
                    try clear hcz35_3
                    try clear hcz36_0
                    try clear hcz36_1
                    try clear hcz36_2
                    try clear hcz36_3
                    try clear hcz36_4
                    try clear hcz36_5
                    try clear hcz41_0
                    try clear hcz41_1
                    try clear hcz41_2
                    try clear hcz41_3
                    try clear hcz53_0
                    try clear hcz53_1
                    try clear hcz53_2
                    try clear hcz53_3
                    try clear hcz58_0
                    try clear hcz58_1
                    try clear hcz58_2
                    try clear hcz58_3
                    try clear hcz64_0
                    try clear hcz64_1
                    try clear hcz64_2
                    try clear hcz64_3
                    try clear hcz74_0
                    try clear hcz74_1
                    try clear hcz74_2
                    try clear hcz74_3
                    try clear hcz76_0
                    try clear hcz76_1
                    try clear hcz76_2
                    try clear hcz76_3
                    try clear hcz76_4
                    try clear hcz76_5
                    try clear hcz79_0
                    try clear hcz79_1
                    try clear hcz79_2
                    try clear hcz79_3
                    try clear hcz9_0
                    try clear hcz9_1
                    try clear hcz9_2
                    try clear hcz9_3
                    try clear hcz9_4
                    try clear hcz9_5
                    try clear hfz11_0
                    try clear hfz11_1
                    try clear hfz11_2
                    try clear hfz11_3
                    try clear hfz11_4
                    try clear hfz11_5
                    try clear hfz13_0
                    try clear hfz13_1
                    try clear hfz13_2
                    try clear hfz13_3
                    try clear hfz13_4
                    try clear hfz13_5
                    try clear hfz21_0
                    try clear hfz21_1
                    try clear hfz21_2
                    try clear hfz21_3
                    try clear hfz21_4
                    try clear hfz21_5
                    try clear hfz25_0
                    try clear hfz25_1
                    try clear hfz25_2
                    try clear hfz25_3
                    try clear hfz30_0
                    try clear hfz30_1
                    try clear hfz30_2
                    try clear hfz30_3
                    try clear hfz33_0
                    try clear hfz33_1
                    try clear hfz33_2
                    try clear hfz33_3
                    try clear hfz35_0
                    try clear hfz35_1
                    try clear hfz35_2
                    try clear hfz35_3
                    try clear hfz36_0
                    try clear hfz36_1
                    try clear hfz36_2
                    try clear hfz36_3
                    try clear hfz36_4
                    try clear hfz36_5
                    try clear hfz41_0
                    try clear hfz41_1
                    try clear hfz41_2
                    try clear hfz41_3
                    try clear hfz53_0
                    try clear hfz53_1
                    try clear hfz53_2
                    try clear hfz53_3
                    try clear hfz58_0
                    try clear hfz58_1
                    try clear hfz58_2
                    try clear hfz58_3
                    try clear hfz64_0
                    try clear hfz64_1
                    try clear hfz64_2
                    try clear hfz64_3
                    try clear hfz74_0
                    try clear hfz74_1
                    try clear hfz74_2
                    try clear hfz74_3
                    try clear hfz76_0
                    try clear hfz76_1
                    try clear hfz76_2
                    try clear hfz76_3
                    try clear hfz76_4
                    try clear hfz76_5
                    try clear hfz79_0
                    try clear hfz79_1
                    try clear hfz79_2
                    try clear hfz79_3
                    try clear hfz9_0
                    try clear hfz9_1
                    try clear hfz9_2
                    try clear hfz9_3
                    try clear hfz9_4
                    try clear hfz9_5
                    try clear hx616_0
                    try clear hx620_0
                    try clear hx620_1
                    try clear hx620_2
                    try clear hx620_3
                    try clear p2
                    try clear p6
                    try clear p616
                    try clear p620
                    try clear p64
                    try clear q616
                    try clear q620
                    obtain ⟨x9_6, x15_6, rfl, HA, HK6, HO_9, HO_10, HO_11, HO_592001, HO_592003, BK579, BK591, HB⟩ := hrel
                    cases gk with
                    | zero => exact absurd HA.out (by simp [rushlightlaw25_FrameApart.l3])
                    | succ k6 =>
                     have H := HA.out
                     clear HA
                     simp only [rushlightlaw25_FrameApart.l3] at H
                     by_cases c80 : x15_6 < (x10_5.length : Int)
                     ·
                      rw [if_pos c80] at H
                      have c80b0 : decide (x15_6 < (x10_5.length : Int)) = true := decide_eq_true c80
                      clear c80
                      have HC81 := Aside0.mk H
                      clear H
                      obtain ⟨Ao82, co82, eo82⟩ := Kd.R_slice HO_10.out
                      subst eo82
                      go_upto_region 29 with (fail)
                      repeat (go_quiet (fail); go_upto_region 29 with (fail))
                      go_cut [157] (fun v157 wc => ∃ (kq : Nat) (x157_80 : Bool), v157 = .bool x157_80 ∧ Aside0 (rushlightlaw25_FrameApart.j6 kq x9_6 x10_5 x11_5 x15_6 x157_80 t582 t583 t586 t587 = some r) ∧ Aside0 (kq ≤ k6) ∧ Aside0 (Kd.R Kd.bool 4 wc w.heap.size (fun _ => True) v594 x9_6) ∧ Aside0 (Kd.R (Kd.int .i64) 3 wc w.heap.size (fun k_ => some k_ ≠ (u11 : Value).ownBlock ∧ some k_ ≠ ((.slice Ao26 t583.length co26) : Value).ownBlock ∧ some k_ ≠ ((.slice Ao27 t587.length co27) : Value).ownBlock) (.slice Ao82 x10_5.length co82) x10_5) ∧ Aside0 (Kd.R (Kd.int .i64) 3 wc w.heap.size (fun k_ => some k_ ≠ ((.slice Ao82 x10_5.length co82) : Value).ownBlock ∧ some k_ ≠ ((.slice Ao26 t583.length co26) : Value).ownBlock ∧ some k_ ≠ ((.slice Ao27 t587.length co27) : Value).ownBlock) u11 x11_5) ∧ Aside0 (Kd.R (Kd.int .i64) 3 wc w.heap.size (fun k_ => some k_ ≠ ((.slice Ao82 x10_5.length co82) : Value).ownBlock ∧ some k_ ≠ (u11 : Value).ownBlock ∧ some k_ ≠ ((.slice Ao27 t587.length co27) : Value).ownBlock) (.slice Ao26 t583.length co26) t583) ∧ Aside0 (Kd.R (Kd.int .i64) 3 wc w.heap.size (fun k_ => some k_ ≠ ((.slice Ao82 x10_5.length co82) : Value).ownBlock ∧ some k_ ≠ (u11 : Value).ownBlock ∧ some k_ ≠ ((.slice Ao26 t583.length co26) : Value).ownBlock) (.slice Ao27 t587.length co27) t587) ∧ Aside0 (wc.heap[gb579]? = some (.cells #[.string a0_0, .bool a0_1, .int .i64 a0_2, .int .i64 a0_3, (.slice A0_4 l0_4.length c0_4), (.slice A0_5 l0_5.length c0_5)] 31 (0, 0))) ∧ Aside0 (wc.heap[gb591]? = some (.cells #[.int .i64 t582, (.slice Ao26 t583.length co26), .int .i64 t586, (.slice Ao27 t587.length co27)] 67 (0, 0))) ∧ Aside0 (Below w.heap.size w wc))
                      case first =>
                       have H := HC81.out
                       clear HC81
                       by_cases c83 : 0 ≤ x15_6
                       ·
                        rw [if_pos c83] at H
                        have c83b0 : decide (0 ≤ x15_6) = true := decide_eq_true c83
                        clear c83
                        (first | rw [c83b0] | (simp only [i64_w, i32_w]; rw [c83b0]) | skip)
                        by_cases c84 : (rd x10_5 x15_6) < 0
                        ·
                         rw [if_pos c84] at H
                         have c84b0 : decide ((rd x10_5 x15_6) < 0) = true := decide_eq_true c84
                         clear c84
                         have H' := Aside0.mk H
                         clear H
                         have p625 : 0 ≤ (x15_6 : Int) := of_decide_eq_true (by first | (with_reducible assumption) | assumption)
                         have q625 : x15_6 < (x10_5.length : Int) := of_decide_eq_true (by first | (with_reducible assumption) | assumption)
                         obtain ⟨ad625, e625, hx625_0⟩ := Kd.at_int (Kd.R_reads' HO_10.out).2.2 x15_6 p625 q625
                         cases e625
                         replace p625 := eq_true p625
                         replace q625 := eq_true q625
                         go_wp2
                         repeat (go_quiet (fail); try go_wp2)
                         go_meet
                         case rel => exact ⟨_, (true), (by first | rfl | (simp; done) | (simp [*]; done)), H', ⟨by have := HJ3.out; have := HJ19.out; have := HK3.out; have := HK4.out; have := HK5.out; have := HK6.out; first | omega | exact Nat.le_refl _⟩, ⟨by (with_reducible repeat (first | apply Kd.R_alloc | apply Kd.R_drewN | apply Kd.R_drew)); exact HO_9.out⟩, ⟨by (with_reducible repeat (first | apply Kd.R_alloc | apply Kd.R_drewN | apply Kd.R_drew)); exact HO_10.out⟩, ⟨by (with_reducible repeat (first | apply Kd.R_alloc | apply Kd.R_drewN | apply Kd.R_drew)); exact HO_11.out⟩, ⟨by (with_reducible repeat (first | apply Kd.R_alloc | apply Kd.R_drewN | apply Kd.R_drew)); exact HO_592001.out⟩, ⟨by (with_reducible repeat (first | apply Kd.R_alloc | apply Kd.R_drewN | apply Kd.R_drew)); exact HO_592003.out⟩, ⟨by (with_reducible repeat (first | refine blk_drewN ?_ _ | refine blk_drew ?_ | refine blk_alloc ?_ _)); exact BK579.out⟩, ⟨by (with_reducible repeat (first | refine blk_drewN ?_ _ | refine blk_drew ?_ | refine blk_alloc ?_ _)); exact BK591.out⟩, ⟨by repeat (first | (with_reducible first | exact HB.out | apply below_alloc | apply pw_below_drewN | apply below_drew1 | refine below_set ?_ GE579.out | refine below_set ?_ GE591.out) | exact HB.out)⟩⟩
                        ·
                         rw [if_neg c84] at H
                         have c84b0 : decide ((rd x10_5 x15_6) < 0) = false := decide_eq_false c84
                         clear c84
                         by_cases c85 : (Int.tmod (rd x10_5 x15_6) 4) = 0
                         ·
                          rw [if_pos c85] at H
                          have c85b0 : ((Int.tmod (rd x10_5 x15_6) 4) == 0) = true := beq_iff_eq.mpr c85
                          have c85b1 : ((Int.tmod (rd x10_5 x15_6) 4) != 0) = false := bne_eq_false_iff_eq.mpr c85
                          clear c85
                          by_cases c86 : (rd x10_5 x15_6) > t582
                          ·
                           rw [if_pos c86] at H
                           have c86b0 : decide (t582 < (rd x10_5 x15_6)) = true := decide_eq_true c86
                           clear c86
                           have H' := Aside0.mk H
                           clear H
                           have p625 : 0 ≤ (x15_6 : Int) := of_decide_eq_true (by first | (with_reducible assumption) | assumption)
                           have q625 : x15_6 < (x10_5.length : Int) := of_decide_eq_true (by first | (with_reducible assumption) | assumption)
                           obtain ⟨ad625, e625, hx625_0⟩ := Kd.at_int (Kd.R_reads' HO_10.out).2.2 x15_6 p625 q625
                           cases e625
                           replace p625 := eq_true p625
                           replace q625 := eq_true q625
                           have p626 : 0 ≤ (x15_6 : Int) := of_decide_eq_true (by first | (with_reducible assumption) | assumption)
                           have q626 : x15_6 < (x10_5.length : Int) := of_decide_eq_true (by first | (with_reducible assumption) | assumption)
                           obtain ⟨ad626, e626, hx626_0⟩ := Kd.at_int (Kd.R_reads' HO_10.out).2.2 x15_6 p626 q626
                           obtain rfl : ad625 = ad626 := (by injection e626)
                           replace p626 := eq_true p626
                           replace q626 := eq_true q626
                           have p627 : 0 ≤ (x15_6 : Int) := of_decide_eq_true (by first | (with_reducible assumption) | assumption)
                           have q627 : x15_6 < (x10_5.length : Int) := of_decide_eq_true (by first | (with_reducible assumption) | assumption)
                           obtain ⟨ad627, e627, hx627_0⟩ := Kd.at_int (Kd.R_reads' HO_10.out).2.2 x15_6 p627 q627
                           obtain rfl : ad625 = ad627 := (by injection e627)
                           replace p627 := eq_true p627
                           replace q627 := eq_true q627
                           have hnb87 := NB591_579.out
                           have hnc87 := NB579_591.out
                           have hcz88_0 : wr.cell? ⟨gb591, 0, none⟩ = some (.int .i64 t582) := (blk_cell BK591.out 0).trans rfl
                           have hcz88_1 : wr.cell? ⟨gb591, 1, none⟩ = some (.slice Ao26 t583.length co26) := (blk_cell BK591.out 1).trans rfl
                           have hcz88_2 : wr.cell? ⟨gb591, 2, none⟩ = some (.int .i64 t586) := (blk_cell BK591.out 2).trans rfl
                           have hcz88_3 : wr.cell? ⟨gb591, 3, none⟩ = some (.slice Ao27 t587.length co27) := (blk_cell BK591.out 3).trans rfl
                           have hfz88_0 := blk_frozen BK591.out 0
                           have hfz88_1 := blk_frozen BK591.out 1
                           have hfz88_2 := blk_frozen BK591.out 2
                           have hfz88_3 := blk_frozen BK591.out 3
                           go_wp2
                           repeat (go_quiet (fail); try go_wp2)
                           go_meet
                           case rel => exact ⟨_, (true), (by first | rfl | (simp; done) | (simp [*]; done)), H', ⟨by have := HJ3.out; have := HJ19.out; have := HK3.out; have := HK4.out; have := HK5.out; have := HK6.out; first | omega | exact Nat.le_refl _⟩, ⟨by (with_reducible repeat (first | apply Kd.R_alloc | apply Kd.R_drewN | apply Kd.R_drew)); exact HO_9.out⟩, ⟨by (with_reducible repeat (first | apply Kd.R_alloc | apply Kd.R_drewN | apply Kd.R_drew)); exact HO_10.out⟩, ⟨by (with_reducible repeat (first | apply Kd.R_alloc | apply Kd.R_drewN | apply Kd.R_drew)); exact HO_11.out⟩, ⟨by (with_reducible repeat (first | apply Kd.R_alloc | apply Kd.R_drewN | apply Kd.R_drew)); exact HO_592001.out⟩, ⟨by (with_reducible repeat (first | apply Kd.R_alloc | apply Kd.R_drewN | apply Kd.R_drew)); exact HO_592003.out⟩, ⟨by (with_reducible repeat (first | refine blk_drewN ?_ _ | refine blk_drew ?_ | refine blk_alloc ?_ _)); exact BK579.out⟩, ⟨by (with_reducible repeat (first | refine blk_drewN ?_ _ | refine blk_drew ?_ | refine blk_alloc ?_ _)); exact BK591.out⟩, ⟨by repeat (first | (with_reducible first | exact HB.out | apply below_alloc | apply pw_below_drewN | apply below_drew1 | refine below_set ?_ GE579.out | refine below_set ?_ GE591.out) | exact HB.out)⟩⟩
                          ·
                           rw [if_neg c86] at H
                           have c86b0 : decide (t582 < (rd x10_5 x15_6)) = false := decide_eq_false c86
                           clear c86
                           by_cases c89 : x15_6 < (x11_5.length : Int)
                           ·
                            rw [if_pos c89] at H
                            have c89b0 : decide (x15_6 < (x11_5.length : Int)) = true := decide_eq_true c89
                            clear c89
                            have H' := Aside0.mk H
                            clear H
                            have p625 : 0 ≤ (x15_6 : Int) := of_decide_eq_true (by first | (with_reducible assumption) | assumption)
                            have q625 : x15_6 < (x10_5.length : Int) := of_decide_eq_true (by first | (with_reducible assumption) | assumption)
                            obtain ⟨ad625, e625, hx625_0⟩ := Kd.at_int (Kd.R_reads' HO_10.out).2.2 x15_6 p625 q625
                            cases e625
                            replace p625 := eq_true p625
                            replace q625 := eq_true q625
                            have p626 : 0 ≤ (x15_6 : Int) := of_decide_eq_true (by first | (with_reducible assumption) | assumption)
                            have q626 : x15_6 < (x10_5.length : Int) := of_decide_eq_true (by first | (with_reducible assumption) | assumption)
                            obtain ⟨ad626, e626, hx626_0⟩ := Kd.at_int (Kd.R_reads' HO_10.out).2.2 x15_6 p626 q626
                            obtain rfl : ad625 = ad626 := (by injection e626)
                            replace p626 := eq_true p626
                            replace q626 := eq_true q626
                            have p627 : 0 ≤ (x15_6 : Int) := of_decide_eq_true (by first | (with_reducible assumption) | assumption)
                            have q627 : x15_6 < (x10_5.length : Int) := of_decide_eq_true (by first | (with_reducible assumption) | assumption)
                            obtain ⟨ad627, e627, hx627_0⟩ := Kd.at_int (Kd.R_reads' HO_10.out).2.2 x15_6 p627 q627
                            obtain rfl : ad625 = ad627 := (by injection e627)
                            replace p627 := eq_true p627
                            replace q627 := eq_true q627
                            have hnb90 := NB591_579.out
                            have hnc90 := NB579_591.out
                            have hcz91_0 : wr.cell? ⟨gb591, 0, none⟩ = some (.int .i64 t582) := (blk_cell BK591.out 0).trans rfl
                            have hcz91_1 : wr.cell? ⟨gb591, 1, none⟩ = some (.slice Ao26 t583.length co26) := (blk_cell BK591.out 1).trans rfl
                            have hcz91_2 : wr.cell? ⟨gb591, 2, none⟩ = some (.int .i64 t586) := (blk_cell BK591.out 2).trans rfl
                            have hcz91_3 : wr.cell? ⟨gb591, 3, none⟩ = some (.slice Ao27 t587.length co27) := (blk_cell BK591.out 3).trans rfl
                            have hfz91_0 := blk_frozen BK591.out 0
                            have hfz91_1 := blk_frozen BK591.out 1
                            have hfz91_2 := blk_frozen BK591.out 2
                            have hfz91_3 := blk_frozen BK591.out 3
                            obtain ⟨Ao92, co92, eo92⟩ := Kd.R_slice HO_11.out
                            subst eo92
                            have p628 : 0 ≤ (x15_6 : Int) := of_decide_eq_true (by first | (with_reducible assumption) | assumption)
                            have q628 : x15_6 < (x11_5.length : Int) := of_decide_eq_true (by first | (with_reducible assumption) | assumption)
                            obtain ⟨ad628, e628, hx628_0⟩ := Kd.at_int (Kd.R_reads' HO_11.out).2.2 x15_6 p628 q628
                            cases e628
                            replace p628 := eq_true p628
                            replace q628 := eq_true q628
                            have p629 : 0 ≤ (x15_6 : Int) := of_decide_eq_true (by first | (with_reducible assumption) | assumption)
                            have q629 : x15_6 < (x10_5.length : Int) := of_decide_eq_true (by first | (with_reducible assumption) | assumption)
                            obtain ⟨ad629, e629, hx629_0⟩ := Kd.at_int (Kd.R_reads' HO_10.out).2.2 x15_6 p629 q629
                            obtain rfl : ad625 = ad629 := (by injection e629)
                            replace p629 := eq_true p629
                            replace q629 := eq_true q629
                            go_wp2
                            repeat (go_quiet (fail); try go_wp2)
                            go_meet
                            case rel => exact ⟨_, (decide ((rd x11_5 x15_6) > (wrap64 (t582 - (rd x10_5 x15_6))))), (by first | rfl | (simp; done) | (simp [*]; done)), H', ⟨by have := HJ3.out; have := HJ19.out; have := HK3.out; have := HK4.out; have := HK5.out; have := HK6.out; first | omega | exact Nat.le_refl _⟩, ⟨by (with_reducible repeat (first | apply Kd.R_alloc | apply Kd.R_drewN | apply Kd.R_drew)); exact HO_9.out⟩, ⟨by (with_reducible repeat (first | apply Kd.R_alloc | apply Kd.R_drewN | apply Kd.R_drew)); exact HO_10.out⟩, ⟨by (with_reducible repeat (first | apply Kd.R_alloc | apply Kd.R_drewN | apply Kd.R_drew)); exact HO_11.out⟩, ⟨by (with_reducible repeat (first | apply Kd.R_alloc | apply Kd.R_drewN | apply Kd.R_drew)); exact HO_592001.out⟩, ⟨by (with_reducible repeat (first | apply Kd.R_alloc | apply Kd.R_drewN | apply Kd.R_drew)); exact HO_592003.out⟩, ⟨by (with_reducible repeat (first | refine blk_drewN ?_ _ | refine blk_drew ?_ | refine blk_alloc ?_ _)); exact BK579.out⟩, ⟨by (with_reducible repeat (first | refine blk_drewN ?_ _ | refine blk_drew ?_ | refine blk_alloc ?_ _)); exact BK591.out⟩, ⟨by repeat (first | (with_reducible first | exact HB.out | apply below_alloc | apply pw_below_drewN | apply below_drew1 | refine below_set ?_ GE579.out | refine below_set ?_ GE591.out) | exact HB.out)⟩⟩
                           ·
                            rw [if_neg c89] at H
                            exact absurd H (by simp)
                         ·
                          rw [if_neg c85] at H
                          have c85b0 : ((Int.tmod (rd x10_5 x15_6) 4) == 0) = false := beq_eq_false_iff_ne.mpr c85
                          have c85b1 : ((Int.tmod (rd x10_5 x15_6) 4) != 0) = true := bne_iff_ne.mpr c85
                          have H' := Aside0.mk H
                          clear H
                          have p625 : 0 ≤ (x15_6 : Int) := of_decide_eq_true (by first | (with_reducible assumption) | assumption)
                          have q625 : x15_6 < (x10_5.length : Int) := of_decide_eq_true (by first | (with_reducible assumption) | assumption)
                          obtain ⟨ad625, e625, hx625_0⟩ := Kd.at_int (Kd.R_reads' HO_10.out).2.2 x15_6 p625 q625
                          cases e625
                          replace p625 := eq_true p625
                          replace q625 := eq_true q625
                          have p626 : 0 ≤ (x15_6 : Int) := of_decide_eq_true (by first | (with_reducible assumption) | assumption)
                          have q626 : x15_6 < (x10_5.length : Int) := of_decide_eq_true (by first | (with_reducible assumption) | assumption)
                          obtain ⟨ad626, e626, hx626_0⟩ := Kd.at_int (Kd.R_reads' HO_10.out).2.2 x15_6 p626 q626
                          obtain rfl : ad625 = ad626 := (by injection e626)
                          replace p626 := eq_true p626
                          replace q626 := eq_true q626
                          go_wp2
                          repeat (go_quiet (fail); try go_wp2)
                          go_meet
                          case rel => exact ⟨_, (true), (by first | rfl | (simp; done) | (simp [*]; done)), H', ⟨by have := HJ3.out; have := HJ19.out; have := HK3.out; have := HK4.out; have := HK5.out; have := HK6.out; first | omega | exact Nat.le_refl _⟩, ⟨by (with_reducible repeat (first | apply Kd.R_alloc | apply Kd.R_drewN | apply Kd.R_drew)); exact HO_9.out⟩, ⟨by (with_reducible repeat (first | apply Kd.R_alloc | apply Kd.R_drewN | apply Kd.R_drew)); exact HO_10.out⟩, ⟨by (with_reducible repeat (first | apply Kd.R_alloc | apply Kd.R_drewN | apply Kd.R_drew)); exact HO_11.out⟩, ⟨by (with_reducible repeat (first | apply Kd.R_alloc | apply Kd.R_drewN | apply Kd.R_drew)); exact HO_592001.out⟩, ⟨by (with_reducible repeat (first | apply Kd.R_alloc | apply Kd.R_drewN | apply Kd.R_drew)); exact HO_592003.out⟩, ⟨by (with_reducible repeat (first | refine blk_drewN ?_ _ | refine blk_drew ?_ | refine blk_alloc ?_ _)); exact BK579.out⟩, ⟨by (with_reducible repeat (first | refine blk_drewN ?_ _ | refine blk_drew ?_ | refine blk_alloc ?_ _)); exact BK591.out⟩, ⟨by repeat (first | (with_reducible first | exact HB.out | apply below_alloc | apply pw_below_drewN | apply below_drew1 | refine below_set ?_ GE579.out | refine below_set ?_ GE591.out) | exact HB.out)⟩⟩
                       ·
                        rw [if_neg c83] at H
                        exact absurd H (by simp)
                      case rest =>
                       clear HC81
                       try clear c1
                       try clear c2
                       try clear p2
                       try clear c3
                       try clear c4
                       try clear c5
                       try clear c6
                       try clear p6
                       try clear q6
                       try clear hx6
                       try clear c7
                       try clear c8
                       try clear c8b0
                       try clear c9
                       try clear c15
                       try clear c19
                       try clear c19b0
                       try clear c19b1
                       try clear c24
                       try clear c28
                       try clear c28b0
                       try clear c29
                       try clear c31
                       try clear c31b0
                       try clear c32
                       try clear c34
                       try clear c37
                       try clear c38
                       try clear c38b0
                       try clear c38b1
                       try clear c39
                       try clear c39b0
                       try clear c39b1
                       try clear c40
                       try clear c48
                       try clear c48b0
                       try clear c50
                       try clear c51
                       try clear c52
                       try clear c57
                       try clear c59
                       try clear c59b0
                       try clear c61
                       try clear p61
                       try clear q61
                       try clear hx61
                       try clear c62
                       try clear p62
                       try clear q62
                       try clear hx62
                       try clear c63
                       try clear p64
                       try clear c68
                       try clear c68b0
                       try clear c69
                       try clear c69b0
                       try clear c70
                       try clear c71
                       try clear c71b0
                       try clear c72
                       try clear c73
                       try clear c78
                       try clear c80
                       try clear c80b0
                       try clear c83
                       try clear c83b0
                       try clear c84
                       try clear c84b0
                       try clear c85
                       try clear c85b0
                       try clear c85b1
                       try clear c86
                       try clear c86b0
                       try clear c87
                       try clear c89
                       try clear c89b0
                       try clear c90
                       try clear hcz11_0
                       try clear hcz11_1
                       try clear hcz11_2
                       try clear hcz11_3
                       try clear hcz11_4
                       try clear hcz11_5
                       try clear hcz13_0
                       try clear hcz13_1
                       try clear hcz13_2
                       try clear hcz13_3
                       try clear hcz13_4
                       try clear hcz13_5
                       try clear hcz21_0
                       try clear hcz21_1
                       try clear hcz21_2
                       try clear hcz21_3
                       try clear hcz21_4
                       try clear hcz21_5
                       try clear hcz25_0
                       try clear hcz25_1
                       try clear hcz25_2
                       try clear hcz25_3
                       try clear hcz30_0
                       try clear hcz30_1
                       try clear hcz30_2
                       try clear hcz30_3
                       try clear hcz33_0
                       try clear hcz33_1
                       try clear hcz33_2
                       try clear hcz33_3
                       try clear hcz35_0
                       try clear hcz35_1
                       try clear hcz35_2
                       try clear hcz35_3
                       try clear hcz36_0
                       try clear hcz36_1
                       try clear hcz36_2
                       try clear hcz36_3
                       try clear hcz36_4
                       try clear hcz36_5
                       try clear hcz41_0
                       try clear hcz41_1
                       try clear hcz41_2
                       try clear hcz41_3
                       try clear hcz53_0
                       try clear hcz53_1
                       try clear hcz53_2
                       try clear hcz53_3
                       try clear hcz58_0
                       try clear hcz58_1
                       try clear hcz58_2
                       try clear hcz58_3
                       try clear hcz64_0
                       try clear hcz64_1
                       try clear hcz64_2
                       try clear hcz64_3
                       try clear hcz74_0
                       try clear hcz74_1
                       try clear hcz74_2
                       try clear hcz74_3
                       try clear hcz76_0
                       try clear hcz76_1
                       try clear hcz76_2
                       try clear hcz76_3
                       try clear hcz76_4
                       try clear hcz76_5
                       try clear hcz79_0
                       try clear hcz79_1
                       try clear hcz79_2
                       try clear hcz79_3
                       try clear hcz88_0
                       try clear hcz88_1
                       try clear hcz88_2
                       try clear hcz88_3
                       try clear hcz91_0
                       try clear hcz91_1
                       try clear hcz91_2
                       try clear hcz91_3
                       try clear hcz9_0
                       try clear hcz9_1
                       try clear hcz9_2
                       try clear hcz9_3
                       try clear hcz9_4
                       try clear hcz9_5
                       try clear hfz11_0
                       try clear hfz11_1
                       try clear hfz11_2
                       try clear hfz11_3
                       try clear hfz11_4
                       try clear hfz11_5
                       try clear hfz13_0
                       try clear hfz13_1
                       try clear hfz13_2
                       try clear hfz13_3
                       try clear hfz13_4
                       try clear hfz13_5
                       try clear hfz21_0
                       try clear hfz21_1
                       try clear hfz21_2
                       try clear hfz21_3
                       try clear hfz21_4
                       try clear hfz21_5
                       try clear hfz25_0
                       try clear hfz25_1
                       try clear hfz25_2
                       try clear hfz25_3
                       try clear hfz30_0
                       try clear hfz30_1
                       try clear hfz30_2
                       try clear hfz30_3
                       try clear hfz33_0
                       try clear hfz33_1
                       try clear hfz33_2
                       try clear hfz33_3
                       try clear hfz35_0
                       try clear hfz35_1
                       try clear hfz35_2
                       try clear hfz35_3
                       try clear hfz36_0
                       try clear hfz36_1
                       try clear hfz36_2
                       try clear hfz36_3
                       try clear hfz36_4
                       try clear hfz36_5
                       try clear hfz41_0
                       try clear hfz41_1
                       try clear hfz41_2
                       try clear hfz41_3
                       try clear hfz53_0
                       try clear hfz53_1
                       try clear hfz53_2
                       try clear hfz53_3
                       try clear hfz58_0
                       try clear hfz58_1
                       try clear hfz58_2
                       try clear hfz58_3
                       try clear hfz64_0
                       try clear hfz64_1
                       try clear hfz64_2
                       try clear hfz64_3
                       try clear hfz74_0
                       try clear hfz74_1
                       try clear hfz74_2
                       try clear hfz74_3
                       try clear hfz76_0
                       try clear hfz76_1
                       try clear hfz76_2
                       try clear hfz76_3
                       try clear hfz76_4
                       try clear hfz76_5
                       try clear hfz79_0
                       try clear hfz79_1
                       try clear hfz79_2
                       try clear hfz79_3
                       try clear hfz88_0
                       try clear hfz88_1
                       try clear hfz88_2
                       try clear hfz88_3
                       try clear hfz91_0
                       try clear hfz91_1
                       try clear hfz91_2
                       try clear hfz91_3
                       try clear hfz9_0
                       try clear hfz9_1
                       try clear hfz9_2
                       try clear hfz9_3
                       try clear hfz9_4
                       try clear hfz9_5
                       try clear hx616_0
                       try clear hx620_0
                       try clear hx620_1
                       try clear hx620_2
                       try clear hx620_3
                       try clear hx625_0
                       try clear hx626_0
                       try clear hx627_0
                       try clear hx628_0
                       try clear hx629_0
                       try clear p2
                       try clear p6
                       try clear p61
                       try clear p616
                       try clear p62
                       try clear p620
                       try clear p625
                       try clear p626
                       try clear p627
                       try clear p628
                       try clear p629
                       try clear p64
                       try clear q6
                       try clear q61
                       try clear q616
                       try clear q62
                       try clear q620
                       try clear q625
                       try clear q626
                       try clear q627
                       try clear q628
                       try clear q629
                       obtain ⟨kq, x157_80, rfl, HA, HJ80, HO_9, HO_10, HO_11, HO_592001, HO_592003, BK579, BK591, HB⟩ := hcut
                       cases kq with
                       | zero => exact absurd HA.out (by simp [rushlightlaw25_FrameApart.j6])
                       | succ kj80 =>
                        have H := HA.out
                        clear HA
                        simp only [rushlightlaw25_FrameApart.j6] at H
                        by_cases c93 : x157_80 = true
                        ·
                         subst c93
                         have H1 : (some false) = some r := by rw [if_pos rfl] at H; exact H
                         clear H
                         have H := H1
                         clear H1
                         obtain rfl := Option.some.inj H
                         go_wp2
                         repeat (go_quiet (fail); try go_wp2)
                         go_ret
                         exact ⟨by first | rfl | (simp [errW_none, errW_some] <;> rfl) | (simp [*, errW_none, errW_some] <;> rfl), by repeat (first | (with_reducible first | exact HB.out | apply below_alloc | apply pw_below_drewN | apply below_drew1 | refine below_set ?_ GE579.out | refine below_set ?_ GE591.out) | exact HB.out)⟩
                        ·
                         replace c93 := Bool.eq_false_iff.mpr c93
                         subst c93
                         have H1 : (rushlightlaw25_FrameApart.l4 kj80 x9_6 x10_5 x11_5 x15_6 0 t582 t583 t586 t587) = some r := by rw [if_neg (show ¬ (false = true) by decide)] at H; exact H
                         clear H
                         have H := H1
                         clear H1
                         have H' := Aside0.mk H
                         clear H
                         go_wp2
                         repeat (go_quiet (fail); try go_wp2)
                         go_loopg [16] kj80 (fun kq v16 w' => ∃ (x9_8 : List Bool) (x16_8 : Int), v16 = .int .i64 x16_8 ∧ Aside0 (rushlightlaw25_FrameApart.l4 kq x9_8 x10_5 x11_5 x15_6 x16_8 t582 t583 t586 t587 = some r) ∧ Aside0 (kq ≤ kj80) ∧ Aside0 (Kd.R Kd.bool 4 w' w.heap.size (fun _ => True) v594 x9_8) ∧ Aside0 (Kd.R (Kd.int .i64) 3 w' w.heap.size (fun k_ => some k_ ≠ (u11 : Value).ownBlock ∧ some k_ ≠ ((.slice Ao26 t583.length co26) : Value).ownBlock ∧ some k_ ≠ ((.slice Ao27 t587.length co27) : Value).ownBlock) (.slice Ao82 x10_5.length co82) x10_5) ∧ Aside0 (Kd.R (Kd.int .i64) 3 w' w.heap.size (fun k_ => some k_ ≠ ((.slice Ao82 x10_5.length co82) : Value).ownBlock ∧ some k_ ≠ ((.slice Ao26 t583.length co26) : Value).ownBlock ∧ some k_ ≠ ((.slice Ao27 t587.length co27) : Value).ownBlock) u11 x11_5) ∧ Aside0 (Kd.R (Kd.int .i64) 3 w' w.heap.size (fun k_ => some k_ ≠ ((.slice Ao82 x10_5.length co82) : Value).ownBlock ∧ some k_ ≠ (u11 : Value).ownBlock ∧ some k_ ≠ ((.slice Ao27 t587.length co27) : Value).ownBlock) (.slice Ao26 t583.length co26) t583) ∧ Aside0 (Kd.R (Kd.int .i64) 3 w' w.heap.size (fun k_ => some k_ ≠ ((.slice Ao82 x10_5.length co82) : Value).ownBlock ∧ some k_ ≠ (u11 : Value).ownBlock ∧ some k_ ≠ ((.slice Ao26 t583.length co26) : Value).ownBlock) (.slice Ao27 t587.length co27) t587) ∧ Aside0 (w'.heap[gb579]? = some (.cells #[.string a0_0, .bool a0_1, .int .i64 a0_2, .int .i64 a0_3, (.slice A0_4 l0_4.length c0_4), (.slice A0_5 l0_5.length c0_5)] 31 (0, 0))) ∧ Aside0 (w'.heap[gb591]? = some (.cells #[.int .i64 t582, (.slice Ao26 t583.length co26), .int .i64 t586, (.slice Ao27 t587.length co27)] 67 (0, 0))) ∧ Aside0 (Below w.heap.size w w'))
                         case atStart => exact ⟨(x9_6), (0), (by first | rfl | (simp; done) | (simp [*]; done)), H', ⟨Nat.le_refl _⟩, ⟨by (with_reducible repeat (first | apply Kd.R_alloc | apply Kd.R_drewN | apply Kd.R_drew)); exact HO_9.out⟩, ⟨by (with_reducible repeat (first | apply Kd.R_alloc | apply Kd.R_drewN | apply Kd.R_drew)); exact HO_10.out⟩, ⟨by (with_reducible repeat (first | apply Kd.R_alloc | apply Kd.R_drewN | apply Kd.R_drew)); exact HO_11.out⟩, ⟨by (with_reducible repeat (first | apply Kd.R_alloc | apply Kd.R_drewN | apply Kd.R_drew)); exact HO_592001.out⟩, ⟨by (with_reducible repeat (first | apply Kd.R_alloc | apply Kd.R_drewN | apply Kd.R_drew)); exact HO_592003.out⟩, ⟨by (with_reducible repeat (first | refine blk_drewN ?_ _ | refine blk_drew ?_ | refine blk_alloc ?_ _)); exact BK579.out⟩, ⟨by (with_reducible repeat (first | refine blk_drewN ?_ _ | refine blk_drew ?_ | refine blk_alloc ?_ _)); exact BK591.out⟩, ⟨by repeat (first | (with_reducible first | exact HB.out | apply below_alloc | apply pw_below_drewN | apply below_drew1 | refine below_set ?_ GE579.out | refine below_set ?_ GE591.out) | exact HB.out)⟩⟩
                         case round =>
                          clear H'
                          try clear c1
                          try clear c2
                          try clear p2
                          try clear c3
                          try clear c4
                          try clear c5
                          try clear c6
                          try clear p6
                          try clear q6
                          try clear hx6
                          try clear c7
                          try clear c8
                          try clear c8b0
                          try clear c9
                          try clear c15
                          try clear c19
                          try clear c19b0
                          try clear c19b1
                          try clear c24
                          try clear c28
                          try clear c28b0
                          try clear c29
                          try clear c31
                          try clear c31b0
                          try clear c32
                          try clear c34
                          try clear c37
                          try clear c38
                          try clear c38b0
                          try clear c38b1
                          try clear c39
                          try clear c39b0
                          try clear c39b1
                          try clear c40
                          try clear c48
                          try clear c48b0
                          try clear c50
                          try clear c51
                          try clear c52
                          try clear c57
                          try clear c59
                          try clear c59b0
                          try clear c61
                          try clear p61
                          try clear q61
                          try clear hx61
                          try clear c62
                          try clear p62
                          try clear q62
                          try clear hx62
                          try clear c63
                          try clear p64
                          try clear c68
                          try clear c68b0
                          try clear c69
                          try clear c69b0
                          try clear c70
                          try clear c71
                          try clear c71b0
                          try clear c72
                          try clear c73
                          try clear c78
                          try clear c80
                          try clear c80b0
                          try clear c83
                          try clear c83b0
                          try clear c84
                          try clear c84b0
                          try clear c85
                          try clear c85b0
                          try clear c85b1
                          try clear c86
                          try clear c86b0
                          try clear c87
                          try clear c89
                          try clear c89b0
                          try clear c90
                          try clear c93
                          try clear hcz11_0
                          try clear hcz11_1
                          try clear hcz11_2
                          try clear hcz11_3
                          try clear hcz11_4
                          try clear hcz11_5
                          try clear hcz13_0
                          try clear hcz13_1
                          try clear hcz13_2
                          try clear hcz13_3
                          try clear hcz13_4
                          try clear hcz13_5
                          try clear hcz21_0
                          try clear hcz21_1
                          try clear hcz21_2
                          try clear hcz21_3
                          try clear hcz21_4
                          try clear hcz21_5
                          try clear hcz25_0
                          try clear hcz25_1
                          try clear hcz25_2
                          try clear hcz25_3
                          try clear hcz30_0
                          try clear hcz30_1
                          try clear hcz30_2
                          try clear hcz30_3
                          try clear hcz33_0
                          try clear hcz33_1
                          try clear hcz33_2
                          try clear hcz33_3
                          try clear hcz35_0
                          try clear hcz35_1
                          try clear hcz35_2
                          try clear hcz35_3
                          try clear hcz36_0
                          try clear hcz36_1
                          try clear hcz36_2
                          try clear hcz36_3
                          try clear hcz36_4
                          try clear hcz36_5
                          try clear hcz41_0
                          try clear hcz41_1
                          try clear hcz41_2
                          try clear hcz41_3
                          try clear hcz53_0
                          try clear hcz53_1
                          try clear hcz53_2
                          try clear hcz53_3
                          try clear hcz58_0
                          try clear hcz58_1
                          try clear hcz58_2
                          try clear hcz58_3
                          try clear hcz64_0
                          try clear hcz64_1
                          try clear hcz64_2
                          try clear hcz64_3
                          try clear hcz74_0
                          try clear hcz74_1
                          try clear hcz74_2
                          try clear hcz74_3
                          try clear hcz76_0
                          try clear hcz76_1
                          try clear hcz76_2
                          try clear hcz76_3
                          try clear hcz76_4
                          try clear hcz76_5
                          try clear hcz79_0
                          try clear hcz79_1
                          try clear hcz79_2
                          try clear hcz79_3
                          try clear hcz88_0
                          try clear hcz88_1
                          try clear hcz88_2
                          try clear hcz88_3
                          try clear hcz91_0
                          try clear hcz91_1
                          try clear hcz91_2
                          try clear hcz91_3
                          try clear hcz9_0
                          try clear hcz9_1
                          try clear hcz9_2
                          try clear hcz9_3
                          try clear hcz9_4
                          try clear hcz9_5
                          try clear hfz11_0
                          try clear hfz11_1
                          try clear hfz11_2
                          try clear hfz11_3
                          try clear hfz11_4
                          try clear hfz11_5
                          try clear hfz13_0
                          try clear hfz13_1
                          try clear hfz13_2
                          try clear hfz13_3
                          try clear hfz13_4
                          try clear hfz13_5
                          try clear hfz21_0
                          try clear hfz21_1
                          try clear hfz21_2
                          try clear hfz21_3
                          try clear hfz21_4
                          try clear hfz21_5
                          try clear hfz25_0
                          try clear hfz25_1
                          try clear hfz25_2
                          try clear hfz25_3
                          try clear hfz30_0
                          try clear hfz30_1
                          try clear hfz30_2
                          try clear hfz30_3
                          try clear hfz33_0
                          try clear hfz33_1
                          try clear hfz33_2
                          try clear hfz33_3
                          try clear hfz35_0
                          try clear hfz35_1
                          try clear hfz35_2
                          try clear hfz35_3
                          try clear hfz36_0
                          try clear hfz36_1
                          try clear hfz36_2
                          try clear hfz36_3
                          try clear hfz36_4
                          try clear hfz36_5
                          try clear hfz41_0
                          try clear hfz41_1
                          try clear hfz41_2
                          try clear hfz41_3
                          try clear hfz53_0
                          try clear hfz53_1
                          try clear hfz53_2
                          try clear hfz53_3
                          try clear hfz58_0
                          try clear hfz58_1
                          try clear hfz58_2
                          try clear hfz58_3
                          try clear hfz64_0
                          try clear hfz64_1
                          try clear hfz64_2
                          try clear hfz64_3
                          try clear hfz74_0
                          try clear hfz74_1
                          try clear hfz74_2
                          try clear hfz74_3
                          try clear hfz76_0
                          try clear hfz76_1
                          try clear hfz76_2
                          try clear hfz76_3
                          try clear hfz76_4
                          try clear hfz76_5
                          try clear hfz79_0
                          try clear hfz79_1
                          try clear hfz79_2
                          try clear hfz79_3
                          try clear hfz88_0
                          try clear hfz88_1
                          try clear hfz88_2
                          try clear hfz88_3
                          try clear hfz91_0
                          try clear hfz91_1
                          try clear hfz91_2
                          try clear hfz91_3
                          try clear hfz9_0
                          try clear hfz9_1
                          try clear hfz9_2
                          try clear hfz9_3
                          try clear hfz9_4
                          try clear hfz9_5
                          try clear hx616_0
                          try clear hx620_0
                          try clear hx620_1
                          try clear hx620_2
                          try clear hx620_3
                          try clear hx625_0
                          try clear hx626_0
                          try clear hx627_0
                          try clear hx628_0
                          try clear hx629_0
                          try clear p2
                          try clear p6
                          try clear p61
                          try clear p616
                          try clear p62
                          try clear p620
                          try clear p625
                          try clear p626
                          try clear p627
                          try clear p628
                          try clear p629
                          try clear p64
                          try clear q6
                          try clear q61
                          try clear q616
                          try clear q62
                          try clear q620
                          try clear q625
                          try clear q626
                          try clear q627
                          try clear q628
                          try clear q629
                          obtain ⟨x9_8, x16_8, rfl, HA, HK8, HO_9, HO_10, HO_11, HO_592001, HO_592003, BK579, BK591, HB⟩ := hrel
                          cases gk with
                          | zero => exact absurd HA.out (by simp [rushlightlaw25_FrameApart.l4])
                          | succ k8 =>
                           have H := HA.out
                           clear HA
                           simp only [rushlightlaw25_FrameApart.l4] at H
                           by_cases c94 : 0 ≤ x15_6
                           ·
                            rw [if_pos c94] at H
                            have c94b0 : decide (0 ≤ x15_6) = true := decide_eq_true c94
                            clear c94
                            by_cases c95 : x15_6 < (x11_5.length : Int)
                            ·
                             rw [if_pos c95] at H
                             have c95b0 : decide (x15_6 < (x11_5.length : Int)) = true := decide_eq_true c95
                             clear c95
                             by_cases c96 : x16_8 < (rd x11_5 x15_6)
                             ·
                              rw [if_pos c96] at H
                              have c96b0 : decide (x16_8 < (rd x11_5 x15_6)) = true := decide_eq_true c96
                              clear c96
                              by_cases c97 : x15_6 < (x10_5.length : Int)
                              ·
                               rw [if_pos c97] at H
                               have c97b0 : decide (x15_6 < (x10_5.length : Int)) = true := decide_eq_true c97
                               clear c97
                               obtain ⟨ji98, hji98⟩ : ∃ j_ : Int, (wrap64 ((rd x10_5 x15_6) + x16_8)) = j_ := ⟨_, rfl⟩
                               replace H : (if 0 ≤ (ji98) then (if (ji98) < (x9_8.length : Int) then (if rdOf false x9_8 (ji98) = true then (some false) else (rushlightlaw25_FrameApart.l4 k8 (x9_8.set ((ji98) : Int).toNat true) x10_5 x11_5 x15_6 (wrap64 (x16_8 + 1)) t582 t583 t586 t587)) else (none)) else (none)) = some r := by first | (rw [hji98] at H; exact H) | (simp only [hji98] at H ⊢; exact H)
                               have hji98w : (IntKind.i64.wrap ((rd x10_5 x15_6) + x16_8)) = ji98 := (i64_w _).trans hji98
                               by_cases c99 : 0 ≤ (ji98)
                               ·
                                rw [if_pos c99] at H
                                have c99b0 : decide (0 ≤ (ji98)) = true := decide_eq_true c99
                                clear c99
                                by_cases c100 : (ji98) < (x9_8.length : Int)
                                ·
                                 rw [if_pos c100] at H
                                 have c100b0 : decide ((ji98) < (x9_8.length : Int)) = true := decide_eq_true c100
                                 clear c100
                                 obtain ⟨bq101, hbq101⟩ : ∃ b_ : Bool, b_ = (rdOf false x9_8 (ji98)) := ⟨_, rfl⟩
                                 replace H : (if bq101 = true then (some false) else (rushlightlaw25_FrameApart.l4 k8 (x9_8.set ((ji98) : Int).toNat true) x10_5 x11_5 x15_6 (wrap64 (x16_8 + 1)) t582 t583 t586 t587)) = some r := by rw [← hbq101] at H; exact H
                                 have Nbq101 := Aside0.mk hbq101
                                 clear hbq101
                                 by_cases c102 : bq101 = true
                                 ·
                                  subst c102
                                  have H1 : (some false) = some r := by rw [if_pos rfl] at H; exact H
                                  clear H
                                  have H := H1
                                  clear H1
                                  obtain rfl := Option.some.inj H
                                  obtain ⟨Ao103, co103, eo103⟩ := Kd.R_slice HO_11.out
                                  subst eo103
                                  have p630 : 0 ≤ (x15_6 : Int) := of_decide_eq_true (by first | (with_reducible assumption) | assumption)
                                  have q630 : x15_6 < (x11_5.length : Int) := of_decide_eq_true (by first | (with_reducible assumption) | assumption)
                                  obtain ⟨ad630, e630, hx630_0⟩ := Kd.at_int (Kd.R_reads' HO_11.out).2.2 x15_6 p630 q630
                                  cases e630
                                  replace p630 := eq_true p630
                                  replace q630 := eq_true q630
                                  have p631 : 0 ≤ (x15_6 : Int) := of_decide_eq_true (by first | (with_reducible assumption) | assumption)
                                  have q631 : x15_6 < (x10_5.length : Int) := of_decide_eq_true (by first | (with_reducible assumption) | assumption)
                                  obtain ⟨ad631, e631, hx631_0⟩ := Kd.at_int (Kd.R_reads' HO_10.out).2.2 x15_6 p631 q631
                                  cases e631
                                  replace p631 := eq_true p631
                                  replace q631 := eq_true q631
                                  obtain ⟨Ao104, co104, eo104⟩ := Kd.R_slice HO_9.out
                                  subst eo104
                                  have p632 : 0 ≤ ((ji98) : Int) := of_decide_eq_true (by first | (with_reducible assumption) | assumption)
                                  have q632 : (ji98) < (x9_8.length : Int) := of_decide_eq_true (by first | (with_reducible assumption) | assumption)
                                  obtain ⟨ad632, e632, hx632_0⟩ := Kd.at_bool (Kd.R_reads' HO_9.out).2.2 (ji98) p632 q632
                                  (try rw [← Nbq101.out] at hx632_0)
                                  cases e632
                                  replace p632 := eq_true p632
                                  replace q632 := eq_true q632
                                  go_wp2
                                  repeat (go_quiet (fail); try go_wp2)
                                  go_ret
                                  exact ⟨by first | rfl | (simp [errW_none, errW_some] <;> rfl) | (simp only [← hji98]; first | rfl | (simp [errW_none, errW_some] <;> rfl)) | (simp [*, errW_none, errW_some] <;> rfl), by repeat (first | (with_reducible first | exact HB.out | apply below_alloc | apply pw_below_drewN | apply below_drew1 | refine below_set ?_ GE579.out | refine below_set ?_ GE591.out) | exact HB.out)⟩
                                 ·
                                  replace c102 := Bool.eq_false_iff.mpr c102
                                  subst c102
                                  have H1 : (rushlightlaw25_FrameApart.l4 k8 (x9_8.set ((ji98) : Int).toNat true) x10_5 x11_5 x15_6 (wrap64 (x16_8 + 1)) t582 t583 t586 t587) = some r := by rw [if_neg (show ¬ (false = true) by decide)] at H; exact H
                                  clear H
                                  have H := H1
                                  clear H1
                                  obtain ⟨y634, hy634⟩ : ∃ y_ : List Bool, y_ = (x9_8.set ((ji98) : Int).toNat true) := ⟨_, rfl⟩
                                  replace H : (rushlightlaw25_FrameApart.l4 k8 y634 x10_5 x11_5 x15_6 (wrap64 (x16_8 + 1)) t582 t583 t586 t587) = some r := by first | (rw [hy634]; with_reducible exact H) | (have H2_ := (Option.bind_some _ _).symm.trans H; rw [hy634]; with_reducible exact H2_) | (have H2_ := (Option.bind_some _ _).symm.trans H; with_reducible exact H2_) | with_reducible exact H | (rw [hy634]; exact H) | exact H
                                  have Ny634 := Aside0.mk hy634
                                  clear hy634
                                  have H' := Aside0.mk H
                                  clear H
                                  obtain ⟨Ao106, co106, eo106⟩ := Kd.R_slice HO_11.out
                                  subst eo106
                                  have p630 : 0 ≤ (x15_6 : Int) := of_decide_eq_true (by first | (with_reducible assumption) | assumption)
                                  have q630 : x15_6 < (x11_5.length : Int) := of_decide_eq_true (by first | (with_reducible assumption) | assumption)
                                  obtain ⟨ad630, e630, hx630_0⟩ := Kd.at_int (Kd.R_reads' HO_11.out).2.2 x15_6 p630 q630
                                  cases e630
                                  replace p630 := eq_true p630
                                  replace q630 := eq_true q630
                                  have p631 : 0 ≤ (x15_6 : Int) := of_decide_eq_true (by first | (with_reducible assumption) | assumption)
                                  have q631 : x15_6 < (x10_5.length : Int) := of_decide_eq_true (by first | (with_reducible assumption) | assumption)
                                  obtain ⟨ad631, e631, hx631_0⟩ := Kd.at_int (Kd.R_reads' HO_10.out).2.2 x15_6 p631 q631
                                  cases e631
                                  replace p631 := eq_true p631
                                  replace q631 := eq_true q631
                                  obtain ⟨Ao107, co107, eo107⟩ := Kd.R_slice HO_9.out
                                  subst eo107
                                  have p632 : 0 ≤ ((ji98) : Int) := of_decide_eq_true (by first | (with_reducible assumption) | assumption)
                                  have q632 : (ji98) < (x9_8.length : Int) := of_decide_eq_true (by first | (with_reducible assumption) | assumption)
                                  obtain ⟨ad632, e632, hx632_0⟩ := Kd.at_bool (Kd.R_reads' HO_9.out).2.2 (ji98) p632 q632
                                  (try rw [← Nbq101.out] at hx632_0)
                                  cases e632
                                  replace p632 := eq_true p632
                                  replace q632 := eq_true q632
                                  have p633 : 0 ≤ (x15_6 : Int) := of_decide_eq_true (by first | (with_reducible assumption) | assumption)
                                  have q633 : x15_6 < (x10_5.length : Int) := of_decide_eq_true (by first | (with_reducible assumption) | assumption)
                                  obtain ⟨ad633, e633, hx633_0⟩ := Kd.at_int (Kd.R_reads' HO_10.out).2.2 x15_6 p633 q633
                                  obtain rfl : ad631 = ad633 := (by injection e633)
                                  replace p633 := eq_true p633
                                  replace q633 := eq_true q633
                                  have p105 : 0 ≤ ((ji98) : Int) := of_decide_eq_true (by first | (with_reducible assumption) | assumption)
                                  have q105 : ((ji98) : Int) < ((x9_8.length : Int) : Int) := of_decide_eq_true (by first | (with_reducible assumption) | assumption)
                                  obtain ⟨go105, co105, eo105, gb105, gl105, cl105, HG105⟩ := Kd.R_form HO_9.out (by omega)
                                  (first | cases eo105 | (injection eo105 with ea_ en_ ec_; (first | subst ea_ | (injection ea_ with ea_; subst ea_)); subst ec_; clear en_))
                                  have GB105 := Aside0.mk gb105
                                  have GG105 := Aside0.mk HG105
                                  clear gb105 gl105 HG105
                                  (first | simp only [add_plain] at hx632_0 | skip)
                                  obtain ⟨hx105_0, hf105_0⟩ := Kd.R_celln false HO_9.out ((ji98) : Int) p105 q105
                                  replace p105 := eq_true p105
                                  replace q105 := eq_true q105
                                  have HP108 := Kd.R_putg HO_9.out ((ji98) : Int) true
                                  go_wp2_with (first | ((with_reducible refine gate_store (t := 4) (p := 182) rfl ?_); (try (rw [drewN_self wr]; generalize hq_ : World.drewN wr _ = wr; have n0_ := Aside0.mk (Kd.R_at hq_ HO_9.out); have n1_ := Aside0.mk (Kd.R_at hq_ HO_10.out); have n2_ := Aside0.mk (Kd.R_at hq_ HO_11.out); have n3_ := Aside0.mk (Kd.R_at hq_ HO_592001.out); have n4_ := Aside0.mk (Kd.R_at hq_ HO_592003.out); have n5_ := Aside0.mk (blk_at hq_ BK579.out); have n6_ := Aside0.mk (blk_at hq_ BK591.out); have n7_ := Aside0.mk (below_at hq_ HB.out); clear hq_ HO_9 HO_10 HO_11 HO_592001 HO_592003 BK579 BK591 HB; have HO_9 := n0_; have HO_10 := n1_; have HO_11 := n2_; have HO_592001 := n3_; have HO_592003 := n4_; have BK579 := n5_; have BK591 := n6_; have HB := n7_; clear n0_ n1_ n2_ n3_ n4_ n5_ n6_ n7_; (try (have HP108 := Kd.R_putg HO_9.out ((ji98) : Int) true)))); refine store_event (t := 4) (p := 182) (v := ?vo_w109) (w1 := (wr.setCell ⟨go105, ((ji98) : Int).toNat, none⟩ (.bool true))) ?hg ?ho ?hn ?hr ?_; (case ho => rfl); (case hg => rfl); (case hn => rfl); (case hr => first | (go_simp; done) | (go_simp; rfl)); intro w109 hw; have hg : wr.grownBy w109 (some go105) := (by rw [hw]; exact HP108.2); have hp_ : Kd.R Kd.bool 4 w109 w.heap.size (fun _ => True) (.slice (some ⟨go105, 0, none⟩) x9_8.length co107) y634 := (by rw [hw, Ny634.out]; exact HP108.1); clear HP108; have n0_ := Aside0.mk (hp_); have n1_ := Aside0.mk (Kd.R_over' (v := (.slice (some ⟨go105, 0, none⟩) x9_8.length co107)) (by (with_reducible repeat (first | apply Kd.R_alloc | apply Kd.R_drewN | apply Kd.R_drew)); exact HO_10.out) (Kd.R_typed HO_9.out) (by decide) hg); have n2_ := Aside0.mk (Kd.R_over' (v := (.slice (some ⟨go105, 0, none⟩) x9_8.length co107)) (by (with_reducible repeat (first | apply Kd.R_alloc | apply Kd.R_drewN | apply Kd.R_drew)); exact HO_11.out) (Kd.R_typed HO_9.out) (by decide) hg); have n3_ := Aside0.mk (Kd.R_over' (v := (.slice (some ⟨go105, 0, none⟩) x9_8.length co107)) (by (with_reducible repeat (first | apply Kd.R_alloc | apply Kd.R_drewN | apply Kd.R_drew)); exact HO_592001.out) (Kd.R_typed HO_9.out) (by decide) hg); have n4_ := Aside0.mk (Kd.R_over' (v := (.slice (some ⟨go105, 0, none⟩) x9_8.length co107)) (by (with_reducible repeat (first | apply Kd.R_alloc | apply Kd.R_drewN | apply Kd.R_drew)); exact HO_592003.out) (Kd.R_typed HO_9.out) (by decide) hg); have n5_ := Aside0.mk (blk_grown (g := gb579) (o := .cells #[.string a0_0, .bool a0_1, .int .i64 a0_2, .int .i64 a0_3, .slice A0_4 l0_4.length c0_4, .slice A0_5 l0_5.length c0_5] 31 (0, 0)) (by (with_reducible repeat (first | refine blk_drewN ?_ _ | refine blk_drew ?_ | refine blk_alloc ?_ _)); exact BK579.out) hg (Kd.R_ne HO_9.out BK579.out (by decide))); have n6_ := Aside0.mk (blk_grown (g := gb591) (o := .cells #[.int .i64 t582, .slice Ao26 t583.length co26, .int .i64 t586, .slice Ao27 t587.length co27] 67 (0, 0)) (by (with_reducible repeat (first | refine blk_drewN ?_ _ | refine blk_drew ?_ | refine blk_alloc ?_ _)); exact BK591.out) hg (Kd.R_ne HO_9.out BK591.out (by decide))); have n7_ := Aside0.mk ((by rw [hw]; exact below_set (HB.out) GB105.out : Below w.heap.size w w109)); clear HO_9; clear HO_10; clear HO_11; clear HO_592001; clear HO_592003; clear BK579; clear BK591; clear HB; have HO_9 := n0_; have HO_10 := n1_; have HO_11 := n2_; have HO_592001 := n3_; have HO_592003 := n4_; have BK579 := n5_; have BK591 := n6_; have HB := n7_; clear n0_ n1_ n2_ n3_ n4_ n5_ n6_ n7_; clear hg hw hp_))
                                  repeat (go_quiet (first | ((with_reducible refine gate_store (t := 4) (p := 182) rfl ?_); (try (rw [drewN_self wr]; generalize hq_ : World.drewN wr _ = wr; have n0_ := Aside0.mk (Kd.R_at hq_ HO_9.out); have n1_ := Aside0.mk (Kd.R_at hq_ HO_10.out); have n2_ := Aside0.mk (Kd.R_at hq_ HO_11.out); have n3_ := Aside0.mk (Kd.R_at hq_ HO_592001.out); have n4_ := Aside0.mk (Kd.R_at hq_ HO_592003.out); have n5_ := Aside0.mk (blk_at hq_ BK579.out); have n6_ := Aside0.mk (blk_at hq_ BK591.out); have n7_ := Aside0.mk (below_at hq_ HB.out); clear hq_ HO_9 HO_10 HO_11 HO_592001 HO_592003 BK579 BK591 HB; have HO_9 := n0_; have HO_10 := n1_; have HO_11 := n2_; have HO_592001 := n3_; have HO_592003 := n4_; have BK579 := n5_; have BK591 := n6_; have HB := n7_; clear n0_ n1_ n2_ n3_ n4_ n5_ n6_ n7_; (try (have HP108 := Kd.R_putg HO_9.out ((ji98) : Int) true)))); refine store_event (t := 4) (p := 182) (v := ?vo_w109) (w1 := (wr.setCell ⟨go105, ((ji98) : Int).toNat, none⟩ (.bool true))) ?hg ?ho ?hn ?hr ?_; (case ho => rfl); (case hg => rfl); (case hn => rfl); (case hr => first | (go_simp; done) | (go_simp; rfl)); intro w109 hw; have hg : wr.grownBy w109 (some go105) := (by rw [hw]; exact HP108.2); have hp_ : Kd.R Kd.bool 4 w109 w.heap.size (fun _ => True) (.slice (some ⟨go105, 0, none⟩) x9_8.length co107) y634 := (by rw [hw, Ny634.out]; exact HP108.1); clear HP108; have n0_ := Aside0.mk (hp_); have n1_ := Aside0.mk (Kd.R_over' (v := (.slice (some ⟨go105, 0, none⟩) x9_8.length co107)) (by (with_reducible repeat (first | apply Kd.R_alloc | apply Kd.R_drewN | apply Kd.R_drew)); exact HO_10.out) (Kd.R_typed HO_9.out) (by decide) hg); have n2_ := Aside0.mk (Kd.R_over' (v := (.slice (some ⟨go105, 0, none⟩) x9_8.length co107)) (by (with_reducible repeat (first | apply Kd.R_alloc | apply Kd.R_drewN | apply Kd.R_drew)); exact HO_11.out) (Kd.R_typed HO_9.out) (by decide) hg); have n3_ := Aside0.mk (Kd.R_over' (v := (.slice (some ⟨go105, 0, none⟩) x9_8.length co107)) (by (with_reducible repeat (first | apply Kd.R_alloc | apply Kd.R_drewN | apply Kd.R_drew)); exact HO_592001.out) (Kd.R_typed HO_9.out) (by decide) hg); have n4_ := Aside0.mk (Kd.R_over' (v := (.slice (some ⟨go105, 0, none⟩) x9_8.length co107)) (by (with_reducible repeat (first | apply Kd.R_alloc | apply Kd.R_drewN | apply Kd.R_drew)); exact HO_592003.out) (Kd.R_typed HO_9.out) (by decide) hg); have n5_ := Aside0.mk (blk_grown (g := gb579) (o := .cells #[.string a0_0, .bool a0_1, .int .i64 a0_2, .int .i64 a0_3, .slice A0_4 l0_4.length c0_4, .slice A0_5 l0_5.length c0_5] 31 (0, 0)) (by (with_reducible repeat (first | refine blk_drewN ?_ _ | refine blk_drew ?_ | refine blk_alloc ?_ _)); exact BK579.out) hg (Kd.R_ne HO_9.out BK579.out (by decide))); have n6_ := Aside0.mk (blk_grown (g := gb591) (o := .cells #[.int .i64 t582, .slice Ao26 t583.length co26, .int .i64 t586, .slice Ao27 t587.length co27] 67 (0, 0)) (by (with_reducible repeat (first | refine blk_drewN ?_ _ | refine blk_drew ?_ | refine blk_alloc ?_ _)); exact BK591.out) hg (Kd.R_ne HO_9.out BK591.out (by decide))); have n7_ := Aside0.mk ((by rw [hw]; exact below_set (HB.out) GB105.out : Below w.heap.size w w109)); clear HO_9; clear HO_10; clear HO_11; clear HO_592001; clear HO_592003; clear BK579; clear BK591; clear HB; have HO_9 := n0_; have HO_10 := n1_; have HO_11 := n2_; have HO_592001 := n3_; have HO_592003 := n4_; have BK579 := n5_; have BK591 := n6_; have HB := n7_; clear n0_ n1_ n2_ n3_ n4_ n5_ n6_ n7_; clear hg hw hp_)); try go_wp2_with (first | ((with_reducible refine gate_store (t := 4) (p := 182) rfl ?_); (try (rw [drewN_self wr]; generalize hq_ : World.drewN wr _ = wr; have n0_ := Aside0.mk (Kd.R_at hq_ HO_9.out); have n1_ := Aside0.mk (Kd.R_at hq_ HO_10.out); have n2_ := Aside0.mk (Kd.R_at hq_ HO_11.out); have n3_ := Aside0.mk (Kd.R_at hq_ HO_592001.out); have n4_ := Aside0.mk (Kd.R_at hq_ HO_592003.out); have n5_ := Aside0.mk (blk_at hq_ BK579.out); have n6_ := Aside0.mk (blk_at hq_ BK591.out); have n7_ := Aside0.mk (below_at hq_ HB.out); clear hq_ HO_9 HO_10 HO_11 HO_592001 HO_592003 BK579 BK591 HB; have HO_9 := n0_; have HO_10 := n1_; have HO_11 := n2_; have HO_592001 := n3_; have HO_592003 := n4_; have BK579 := n5_; have BK591 := n6_; have HB := n7_; clear n0_ n1_ n2_ n3_ n4_ n5_ n6_ n7_; (try (have HP108 := Kd.R_putg HO_9.out ((ji98) : Int) true)))); refine store_event (t := 4) (p := 182) (v := ?vo_w109) (w1 := (wr.setCell ⟨go105, ((ji98) : Int).toNat, none⟩ (.bool true))) ?hg ?ho ?hn ?hr ?_; (case ho => rfl); (case hg => rfl); (case hn => rfl); (case hr => first | (go_simp; done) | (go_simp; rfl)); intro w109 hw; have hg : wr.grownBy w109 (some go105) := (by rw [hw]; exact HP108.2); have hp_ : Kd.R Kd.bool 4 w109 w.heap.size (fun _ => True) (.slice (some ⟨go105, 0, none⟩) x9_8.length co107) y634 := (by rw [hw, Ny634.out]; exact HP108.1); clear HP108; have n0_ := Aside0.mk (hp_); have n1_ := Aside0.mk (Kd.R_over' (v := (.slice (some ⟨go105, 0, none⟩) x9_8.length co107)) (by (with_reducible repeat (first | apply Kd.R_alloc | apply Kd.R_drewN | apply Kd.R_drew)); exact HO_10.out) (Kd.R_typed HO_9.out) (by decide) hg); have n2_ := Aside0.mk (Kd.R_over' (v := (.slice (some ⟨go105, 0, none⟩) x9_8.length co107)) (by (with_reducible repeat (first | apply Kd.R_alloc | apply Kd.R_drewN | apply Kd.R_drew)); exact HO_11.out) (Kd.R_typed HO_9.out) (by decide) hg); have n3_ := Aside0.mk (Kd.R_over' (v := (.slice (some ⟨go105, 0, none⟩) x9_8.length co107)) (by (with_reducible repeat (first | apply Kd.R_alloc | apply Kd.R_drewN | apply Kd.R_drew)); exact HO_592001.out) (Kd.R_typed HO_9.out) (by decide) hg); have n4_ := Aside0.mk (Kd.R_over' (v := (.slice (some ⟨go105, 0, none⟩) x9_8.length co107)) (by (with_reducible repeat (first | apply Kd.R_alloc | apply Kd.R_drewN | apply Kd.R_drew)); exact HO_592003.out) (Kd.R_typed HO_9.out) (by decide) hg); have n5_ := Aside0.mk (blk_grown (g := gb579) (o := .cells #[.string a0_0, .bool a0_1, .int .i64 a0_2, .int .i64 a0_3, .slice A0_4 l0_4.length c0_4, .slice A0_5 l0_5.length c0_5] 31 (0, 0)) (by (with_reducible repeat (first | refine blk_drewN ?_ _ | refine blk_drew ?_ | refine blk_alloc ?_ _)); exact BK579.out) hg (Kd.R_ne HO_9.out BK579.out (by decide))); have n6_ := Aside0.mk (blk_grown (g := gb591) (o := .cells #[.int .i64 t582, .slice Ao26 t583.length co26, .int .i64 t586, .slice Ao27 t587.length co27] 67 (0, 0)) (by (with_reducible repeat (first | refine blk_drewN ?_ _ | refine blk_drew ?_ | refine blk_alloc ?_ _)); exact BK591.out) hg (Kd.R_ne HO_9.out BK591.out (by decide))); have n7_ := Aside0.mk ((by rw [hw]; exact below_set (HB.out) GB105.out : Below w.heap.size w w109)); clear HO_9; clear HO_10; clear HO_11; clear HO_592001; clear HO_592003; clear BK579; clear BK591; clear HB; have HO_9 := n0_; have HO_10 := n1_; have HO_11 := n2_; have HO_592001 := n3_; have HO_592003 := n4_; have BK579 := n5_; have BK591 := n6_; have HB := n7_; clear n0_ n1_ n2_ n3_ n4_ n5_ n6_ n7_; clear hg hw hp_)))
                                  go_roundg k8
                                  case measure => have := HJ3.out; have := HJ19.out; have := HK3.out; have := HK4.out; have := HK5.out; have := HK6.out; have := HJ80.out; have := HK8.out; omega
                                  case rel => exact ⟨(y634), (wrap64 (x16_8 + 1)), (by first | rfl | (simp; done) | (simp [*]; done)), H', ⟨by have := HJ3.out; have := HJ19.out; have := HK3.out; have := HK4.out; have := HK5.out; have := HK6.out; have := HJ80.out; have := HK8.out; omega⟩, ⟨by (with_reducible repeat (first | apply Kd.R_alloc | apply Kd.R_drewN | apply Kd.R_drew)); exact HO_9.out⟩, ⟨by (with_reducible repeat (first | apply Kd.R_alloc | apply Kd.R_drewN | apply Kd.R_drew)); exact HO_10.out⟩, ⟨by (with_reducible repeat (first | apply Kd.R_alloc | apply Kd.R_drewN | apply Kd.R_drew)); exact HO_11.out⟩, ⟨by (with_reducible repeat (first | apply Kd.R_alloc | apply Kd.R_drewN | apply Kd.R_drew)); exact HO_592001.out⟩, ⟨by (with_reducible repeat (first | apply Kd.R_alloc | apply Kd.R_drewN | apply Kd.R_drew)); exact HO_592003.out⟩, ⟨by (with_reducible repeat (first | refine blk_drewN ?_ _ | refine blk_drew ?_ | refine blk_alloc ?_ _)); exact BK579.out⟩, ⟨by (with_reducible repeat (first | refine blk_drewN ?_ _ | refine blk_drew ?_ | refine blk_alloc ?_ _)); exact BK591.out⟩, ⟨by repeat (first | (with_reducible first | exact HB.out | apply below_alloc | apply pw_below_drewN | apply below_drew1 | refine below_set ?_ GE579.out | refine below_set ?_ GE591.out) | exact HB.out)⟩⟩
                                ·
                                 rw [if_neg c100] at H
                                 exact absurd H (by simp)
                               ·
                                rw [if_neg c99] at H
                                exact absurd H (by simp)
                              ·
                               rw [if_neg c97] at H
                               exact absurd H (by simp)
                             ·
                              rw [if_neg c96] at H
                              have c96b0 : decide (x16_8 < (rd x11_5 x15_6)) = false := decide_eq_false c96
                              clear c96
                              have H' := Aside0.mk H
                              clear H
                              obtain ⟨Ao110, co110, eo110⟩ := Kd.R_slice HO_11.out
                              subst eo110
                              have p630 : 0 ≤ (x15_6 : Int) := of_decide_eq_true (by first | (with_reducible assumption) | assumption)
                              have q630 : x15_6 < (x11_5.length : Int) := of_decide_eq_true (by first | (with_reducible assumption) | assumption)
                              obtain ⟨ad630, e630, hx630_0⟩ := Kd.at_int (Kd.R_reads' HO_11.out).2.2 x15_6 p630 q630
                              cases e630
                              replace p630 := eq_true p630
                              replace q630 := eq_true q630
                              go_wp2
                              repeat (go_quiet (fail); try go_wp2)
                              go_roundg k8
                              case measure => have := HJ3.out; have := HJ19.out; have := HK3.out; have := HK4.out; have := HK5.out; have := HK6.out; have := HJ80.out; have := HK8.out; omega
                              case rel => exact ⟨(x9_8), (wrap64 (x15_6 + 1)), (by first | rfl | (simp; done) | (simp [*]; done)), H', ⟨by have := HJ3.out; have := HJ19.out; have := HK3.out; have := HK4.out; have := HK5.out; have := HK6.out; have := HJ80.out; have := HK8.out; omega⟩, ⟨by (with_reducible repeat (first | apply Kd.R_alloc | apply Kd.R_drewN | apply Kd.R_drew)); exact HO_9.out⟩, ⟨by (with_reducible repeat (first | apply Kd.R_alloc | apply Kd.R_drewN | apply Kd.R_drew)); exact HO_10.out⟩, ⟨by (with_reducible repeat (first | apply Kd.R_alloc | apply Kd.R_drewN | apply Kd.R_drew)); exact HO_11.out⟩, ⟨by (with_reducible repeat (first | apply Kd.R_alloc | apply Kd.R_drewN | apply Kd.R_drew)); exact HO_592001.out⟩, ⟨by (with_reducible repeat (first | apply Kd.R_alloc | apply Kd.R_drewN | apply Kd.R_drew)); exact HO_592003.out⟩, ⟨by (with_reducible repeat (first | refine blk_drewN ?_ _ | refine blk_drew ?_ | refine blk_alloc ?_ _)); exact BK579.out⟩, ⟨by (with_reducible repeat (first | refine blk_drewN ?_ _ | refine blk_drew ?_ | refine blk_alloc ?_ _)); exact BK591.out⟩, ⟨by repeat (first | (with_reducible first | exact HB.out | apply below_alloc | apply pw_below_drewN | apply below_drew1 | refine below_set ?_ GE579.out | refine below_set ?_ GE591.out) | exact HB.out)⟩⟩
                            ·
                             rw [if_neg c95] at H
                             exact absurd H (by simp)
                           ·
                            rw [if_neg c94] at H
                            exact absurd H (by simp)
                     ·
                      rw [if_neg c80] at H
                      have c80b0 : decide (x15_6 < (x10_5.length : Int)) = false := decide_eq_false c80
                      clear c80
                      replace H := Option.bind_eq_some_iff.mp H
                      obtain ⟨t624, A1110, H⟩ := H
                      replace H : (if t624 = true then (some ((Int.tmod t582 4) == 0)) else (some false)) = some r := H
                      have A111 := Aside0.mk A1110
                      clear A1110
                      by_cases c112 : t624 = true
                      ·
                       subst c112
                       have H1 : (some ((Int.tmod t582 4) == 0)) = some r := by rw [if_pos rfl] at H; exact H
                       clear H
                       have H := H1
                       clear H1
                       obtain rfl := Option.some.inj H
                       obtain ⟨Ao113, co113, eo113⟩ := Kd.R_slice HO_10.out
                       subst eo113
                       go_wp2_with (first | (go_at_call 32; (with_reducible refine (rushlightlaw25_awake.calls k6  true _ A111.out).mono ?_); rintro e w114 ⟨rfl, hb⟩; have n0_ := Aside0.mk (Kd.R_below (by (with_reducible repeat (first | apply Kd.R_alloc | apply Kd.R_drewN | apply Kd.R_drew)); exact HO_9.out) hb); have n1_ := Aside0.mk (Kd.R_below (by (with_reducible repeat (first | apply Kd.R_alloc | apply Kd.R_drewN | apply Kd.R_drew)); exact HO_10.out) hb); have n2_ := Aside0.mk (Kd.R_below (by (with_reducible repeat (first | apply Kd.R_alloc | apply Kd.R_drewN | apply Kd.R_drew)); exact HO_11.out) hb); have n3_ := Aside0.mk (Kd.R_below (by (with_reducible repeat (first | apply Kd.R_alloc | apply Kd.R_drewN | apply Kd.R_drew)); exact HO_592001.out) hb); have n4_ := Aside0.mk (Kd.R_below (by (with_reducible repeat (first | apply Kd.R_alloc | apply Kd.R_drewN | apply Kd.R_drew)); exact HO_592003.out) hb); have n5_ := Aside0.mk (blk_below (g := gb579) (o := .cells #[.string a0_0, .bool a0_1, .int .i64 a0_2, .int .i64 a0_3, .slice A0_4 l0_4.length c0_4, .slice A0_5 l0_5.length c0_5] 31 (0, 0)) (by (with_reducible repeat (first | refine blk_drewN ?_ _ | refine blk_drew ?_ | refine blk_alloc ?_ _)); exact BK579.out) hb); have n6_ := Aside0.mk (blk_below (g := gb591) (o := .cells #[.int .i64 t582, .slice Ao26 t583.length co26, .int .i64 t586, .slice Ao27 t587.length co27] 67 (0, 0)) (by (with_reducible repeat (first | refine blk_drewN ?_ _ | refine blk_drew ?_ | refine blk_alloc ?_ _)); exact BK591.out) hb); have n7_ := Aside0.mk (below_step (by repeat (first | (with_reducible first | exact HB.out | apply below_alloc | apply pw_below_drewN | apply below_drew1 | refine below_set ?_ GE579.out | refine below_set ?_ GE591.out) | exact HB.out)) hb); clear HO_9; clear HO_10; clear HO_11; clear HO_592001; clear HO_592003; clear BK579; clear BK591; clear HB; have HO_9 := n0_; have HO_10 := n1_; have HO_11 := n2_; have HO_592001 := n3_; have HO_592003 := n4_; have BK579 := n5_; have BK591 := n6_; have HB := n7_; clear n0_ n1_ n2_ n3_ n4_ n5_ n6_ n7_; (try clear hb); (try clear hb2); (try clear hk); (try clear hi); have hnb115 := NB591_579.out; have hnc115 := NB579_591.out; have hcz116_0 : w114.cell? ⟨gb591, 0, none⟩ = some (.int .i64 t582) := (blk_cell BK591.out 0).trans rfl; have hcz116_1 : w114.cell? ⟨gb591, 1, none⟩ = some (.slice Ao26 t583.length co26) := (blk_cell BK591.out 1).trans rfl; have hcz116_2 : w114.cell? ⟨gb591, 2, none⟩ = some (.int .i64 t586) := (blk_cell BK591.out 2).trans rfl; have hcz116_3 : w114.cell? ⟨gb591, 3, none⟩ = some (.slice Ao27 t587.length co27) := (blk_cell BK591.out 3).trans rfl; have hfz116_0 := blk_frozen BK591.out 0; have hfz116_1 := blk_frozen BK591.out 1; have hfz116_2 := blk_frozen BK591.out 2; have hfz116_3 := blk_frozen BK591.out 3))
                       repeat (go_quiet (first | (go_at_call 32; (with_reducible refine (rushlightlaw25_awake.calls k6  true _ A111.out).mono ?_); rintro e w114 ⟨rfl, hb⟩; have n0_ := Aside0.mk (Kd.R_below (by (with_reducible repeat (first | apply Kd.R_alloc | apply Kd.R_drewN | apply Kd.R_drew)); exact HO_9.out) hb); have n1_ := Aside0.mk (Kd.R_below (by (with_reducible repeat (first | apply Kd.R_alloc | apply Kd.R_drewN | apply Kd.R_drew)); exact HO_10.out) hb); have n2_ := Aside0.mk (Kd.R_below (by (with_reducible repeat (first | apply Kd.R_alloc | apply Kd.R_drewN | apply Kd.R_drew)); exact HO_11.out) hb); have n3_ := Aside0.mk (Kd.R_below (by (with_reducible repeat (first | apply Kd.R_alloc | apply Kd.R_drewN | apply Kd.R_drew)); exact HO_592001.out) hb); have n4_ := Aside0.mk (Kd.R_below (by (with_reducible repeat (first | apply Kd.R_alloc | apply Kd.R_drewN | apply Kd.R_drew)); exact HO_592003.out) hb); have n5_ := Aside0.mk (blk_below (g := gb579) (o := .cells #[.string a0_0, .bool a0_1, .int .i64 a0_2, .int .i64 a0_3, .slice A0_4 l0_4.length c0_4, .slice A0_5 l0_5.length c0_5] 31 (0, 0)) (by (with_reducible repeat (first | refine blk_drewN ?_ _ | refine blk_drew ?_ | refine blk_alloc ?_ _)); exact BK579.out) hb); have n6_ := Aside0.mk (blk_below (g := gb591) (o := .cells #[.int .i64 t582, .slice Ao26 t583.length co26, .int .i64 t586, .slice Ao27 t587.length co27] 67 (0, 0)) (by (with_reducible repeat (first | refine blk_drewN ?_ _ | refine blk_drew ?_ | refine blk_alloc ?_ _)); exact BK591.out) hb); have n7_ := Aside0.mk (below_step (by repeat (first | (with_reducible first | exact HB.out | apply below_alloc | apply pw_below_drewN | apply below_drew1 | refine below_set ?_ GE579.out | refine below_set ?_ GE591.out) | exact HB.out)) hb); clear HO_9; clear HO_10; clear HO_11; clear HO_592001; clear HO_592003; clear BK579; clear BK591; clear HB; have HO_9 := n0_; have HO_10 := n1_; have HO_11 := n2_; have HO_592001 := n3_; have HO_592003 := n4_; have BK579 := n5_; have BK591 := n6_; have HB := n7_; clear n0_ n1_ n2_ n3_ n4_ n5_ n6_ n7_; (try clear hb); (try clear hb2); (try clear hk); (try clear hi); have hnb115 := NB591_579.out; have hnc115 := NB579_591.out; have hcz116_0 : w114.cell? ⟨gb591, 0, none⟩ = some (.int .i64 t582) := (blk_cell BK591.out 0).trans rfl; have hcz116_1 : w114.cell? ⟨gb591, 1, none⟩ = some (.slice Ao26 t583.length co26) := (blk_cell BK591.out 1).trans rfl; have hcz116_2 : w114.cell? ⟨gb591, 2, none⟩ = some (.int .i64 t586) := (blk_cell BK591.out 2).trans rfl; have hcz116_3 : w114.cell? ⟨gb591, 3, none⟩ = some (.slice Ao27 t587.length co27) := (blk_cell BK591.out 3).trans rfl; have hfz116_0 := blk_frozen BK591.out 0; have hfz116_1 := blk_frozen BK591.out 1; have hfz116_2 := blk_frozen BK591.out 2; have hfz116_3 := blk_frozen BK591.out 3)); try go_wp2_with (first | (go_at_call 32; (with_reducible refine (rushlightlaw25_awake.calls k6  true _ A111.out).mono ?_); rintro e w114 ⟨rfl, hb⟩; have n0_ := Aside0.mk (Kd.R_below (by (with_reducible repeat (first | apply Kd.R_alloc | apply Kd.R_drewN | apply Kd.R_drew)); exact HO_9.out) hb); have n1_ := Aside0.mk (Kd.R_below (by (with_reducible repeat (first | apply Kd.R_alloc | apply Kd.R_drewN | apply Kd.R_drew)); exact HO_10.out) hb); have n2_ := Aside0.mk (Kd.R_below (by (with_reducible repeat (first | apply Kd.R_alloc | apply Kd.R_drewN | apply Kd.R_drew)); exact HO_11.out) hb); have n3_ := Aside0.mk (Kd.R_below (by (with_reducible repeat (first | apply Kd.R_alloc | apply Kd.R_drewN | apply Kd.R_drew)); exact HO_592001.out) hb); have n4_ := Aside0.mk (Kd.R_below (by (with_reducible repeat (first | apply Kd.R_alloc | apply Kd.R_drewN | apply Kd.R_drew)); exact HO_592003.out) hb); have n5_ := Aside0.mk (blk_below (g := gb579) (o := .cells #[.string a0_0, .bool a0_1, .int .i64 a0_2, .int .i64 a0_3, .slice A0_4 l0_4.length c0_4, .slice A0_5 l0_5.length c0_5] 31 (0, 0)) (by (with_reducible repeat (first | refine blk_drewN ?_ _ | refine blk_drew ?_ | refine blk_alloc ?_ _)); exact BK579.out) hb); have n6_ := Aside0.mk (blk_below (g := gb591) (o := .cells #[.int .i64 t582, .slice Ao26 t583.length co26, .int .i64 t586, .slice Ao27 t587.length co27] 67 (0, 0)) (by (with_reducible repeat (first | refine blk_drewN ?_ _ | refine blk_drew ?_ | refine blk_alloc ?_ _)); exact BK591.out) hb); have n7_ := Aside0.mk (below_step (by repeat (first | (with_reducible first | exact HB.out | apply below_alloc | apply pw_below_drewN | apply below_drew1 | refine below_set ?_ GE579.out | refine below_set ?_ GE591.out) | exact HB.out)) hb); clear HO_9; clear HO_10; clear HO_11; clear HO_592001; clear HO_592003; clear BK579; clear BK591; clear HB; have HO_9 := n0_; have HO_10 := n1_; have HO_11 := n2_; have HO_592001 := n3_; have HO_592003 := n4_; have BK579 := n5_; have BK591 := n6_; have HB := n7_; clear n0_ n1_ n2_ n3_ n4_ n5_ n6_ n7_; (try clear hb); (try clear hb2); (try clear hk); (try clear hi); have hnb115 := NB591_579.out; have hnc115 := NB579_591.out; have hcz116_0 : w114.cell? ⟨gb591, 0, none⟩ = some (.int .i64 t582) := (blk_cell BK591.out 0).trans rfl; have hcz116_1 : w114.cell? ⟨gb591, 1, none⟩ = some (.slice Ao26 t583.length co26) := (blk_cell BK591.out 1).trans rfl; have hcz116_2 : w114.cell? ⟨gb591, 2, none⟩ = some (.int .i64 t586) := (blk_cell BK591.out 2).trans rfl; have hcz116_3 : w114.cell? ⟨gb591, 3, none⟩ = some (.slice Ao27 t587.length co27) := (blk_cell BK591.out 3).trans rfl; have hfz116_0 := blk_frozen BK591.out 0; have hfz116_1 := blk_frozen BK591.out 1; have hfz116_2 := blk_frozen BK591.out 2; have hfz116_3 := blk_frozen BK591.out 3)))
                       go_ret
                       exact ⟨by first | rfl | (simp [errW_none, errW_some] <;> rfl) | (simp [*, errW_none, errW_some] <;> rfl), by repeat (first | (with_reducible first | exact HB.out | apply below_alloc | apply pw_below_drewN | apply below_drew1 | refine below_set ?_ GE579.out | refine below_set ?_ GE591.out) | exact HB.out)⟩
                      ·
                       replace c112 := Bool.eq_false_iff.mpr c112
                       subst c112
                       have H1 : (some false) = some r := by rw [if_neg (show ¬ (false = true) by decide)] at H; exact H
                       clear H
                       have H := H1
                       clear H1
                       obtain rfl := Option.some.inj H
                       obtain ⟨Ao117, co117, eo117⟩ := Kd.R_slice HO_10.out
                       subst eo117
                       go_wp2_with (first | (go_at_call 32; (with_reducible refine (rushlightlaw25_awake.calls k6  false _ A111.out).mono ?_); rintro e w118 ⟨rfl, hb⟩; have n0_ := Aside0.mk (Kd.R_below (by (with_reducible repeat (first | apply Kd.R_alloc | apply Kd.R_drewN | apply Kd.R_drew)); exact HO_9.out) hb); have n1_ := Aside0.mk (Kd.R_below (by (with_reducible repeat (first | apply Kd.R_alloc | apply Kd.R_drewN | apply Kd.R_drew)); exact HO_10.out) hb); have n2_ := Aside0.mk (Kd.R_below (by (with_reducible repeat (first | apply Kd.R_alloc | apply Kd.R_drewN | apply Kd.R_drew)); exact HO_11.out) hb); have n3_ := Aside0.mk (Kd.R_below (by (with_reducible repeat (first | apply Kd.R_alloc | apply Kd.R_drewN | apply Kd.R_drew)); exact HO_592001.out) hb); have n4_ := Aside0.mk (Kd.R_below (by (with_reducible repeat (first | apply Kd.R_alloc | apply Kd.R_drewN | apply Kd.R_drew)); exact HO_592003.out) hb); have n5_ := Aside0.mk (blk_below (g := gb579) (o := .cells #[.string a0_0, .bool a0_1, .int .i64 a0_2, .int .i64 a0_3, .slice A0_4 l0_4.length c0_4, .slice A0_5 l0_5.length c0_5] 31 (0, 0)) (by (with_reducible repeat (first | refine blk_drewN ?_ _ | refine blk_drew ?_ | refine blk_alloc ?_ _)); exact BK579.out) hb); have n6_ := Aside0.mk (blk_below (g := gb591) (o := .cells #[.int .i64 t582, .slice Ao26 t583.length co26, .int .i64 t586, .slice Ao27 t587.length co27] 67 (0, 0)) (by (with_reducible repeat (first | refine blk_drewN ?_ _ | refine blk_drew ?_ | refine blk_alloc ?_ _)); exact BK591.out) hb); have n7_ := Aside0.mk (below_step (by repeat (first | (with_reducible first | exact HB.out | apply below_alloc | apply pw_below_drewN | apply below_drew1 | refine below_set ?_ GE579.out | refine below_set ?_ GE591.out) | exact HB.out)) hb); clear HO_9; clear HO_10; clear HO_11; clear HO_592001; clear HO_592003; clear BK579; clear BK591; clear HB; have HO_9 := n0_; have HO_10 := n1_; have HO_11 := n2_; have HO_592001 := n3_; have HO_592003 := n4_; have BK579 := n5_; have BK591 := n6_; have HB := n7_; clear n0_ n1_ n2_ n3_ n4_ n5_ n6_ n7_; (try clear hb); (try clear hb2); (try clear hk); (try clear hi)))
                       repeat (go_quiet (first | (go_at_call 32; (with_reducible refine (rushlightlaw25_awake.calls k6  false _ A111.out).mono ?_); rintro e w118 ⟨rfl, hb⟩; have n0_ := Aside0.mk (Kd.R_below (by (with_reducible repeat (first | apply Kd.R_alloc | apply Kd.R_drewN | apply Kd.R_drew)); exact HO_9.out) hb); have n1_ := Aside0.mk (Kd.R_below (by (with_reducible repeat (first | apply Kd.R_alloc | apply Kd.R_drewN | apply Kd.R_drew)); exact HO_10.out) hb); have n2_ := Aside0.mk (Kd.R_below (by (with_reducible repeat (first | apply Kd.R_alloc | apply Kd.R_drewN | apply Kd.R_drew)); exact HO_11.out) hb); have n3_ := Aside0.mk (Kd.R_below (by (with_reducible repeat (first | apply Kd.R_alloc | apply Kd.R_drewN | apply Kd.R_drew)); exact HO_592001.out) hb); have n4_ := Aside0.mk (Kd.R_below (by (with_reducible repeat (first | apply Kd.R_alloc | apply Kd.R_drewN | apply Kd.R_drew)); exact HO_592003.out) hb); have n5_ := Aside0.mk (blk_below (g := gb579) (o := .cells #[.string a0_0, .bool a0_1, .int .i64 a0_2, .int .i64 a0_3, .slice A0_4 l0_4.length c0_4, .slice A0_5 l0_5.length c0_5] 31 (0, 0)) (by (with_reducible repeat (first | refine blk_drewN ?_ _ | refine blk_drew ?_ | refine blk_alloc ?_ _)); exact BK579.out) hb); have n6_ := Aside0.mk (blk_below (g := gb591) (o := .cells #[.int .i64 t582, .slice Ao26 t583.length co26, .int .i64 t586, .slice Ao27 t587.length co27] 67 (0, 0)) (by (with_reducible repeat (first | refine blk_drewN ?_ _ | refine blk_drew ?_ | refine blk_alloc ?_ _)); exact BK591.out) hb); have n7_ := Aside0.mk (below_step (by repeat (first | (with_reducible first | exact HB.out | apply below_alloc | apply pw_below_drewN | apply below_drew1 | refine below_set ?_ GE579.out | refine below_set ?_ GE591.out) | exact HB.out)) hb); clear HO_9; clear HO_10; clear HO_11; clear HO_592001; clear HO_592003; clear BK579; clear BK591; clear HB; have HO_9 := n0_; have HO_10 := n1_; have HO_11 := n2_; have HO_592001 := n3_; have HO_592003 := n4_; have BK579 := n5_; have BK591 := n6_; have HB := n7_; clear n0_ n1_ n2_ n3_ n4_ n5_ n6_ n7_; (try clear hb); (try clear hb2); (try clear hk); (try clear hi))); try go_wp2_with (first | (go_at_call 32; (with_reducible refine (rushlightlaw25_awake.calls k6  false _ A111.out).mono ?_); rintro e w118 ⟨rfl, hb⟩; have n0_ := Aside0.mk (Kd.R_below (by (with_reducible repeat (first | apply Kd.R_alloc | apply Kd.R_drewN | apply Kd.R_drew)); exact HO_9.out) hb); have n1_ := Aside0.mk (Kd.R_below (by (with_reducible repeat (first | apply Kd.R_alloc | apply Kd.R_drewN | apply Kd.R_drew)); exact HO_10.out) hb); have n2_ := Aside0.mk (Kd.R_below (by (with_reducible repeat (first | apply Kd.R_alloc | apply Kd.R_drewN | apply Kd.R_drew)); exact HO_11.out) hb); have n3_ := Aside0.mk (Kd.R_below (by (with_reducible repeat (first | apply Kd.R_alloc | apply Kd.R_drewN | apply Kd.R_drew)); exact HO_592001.out) hb); have n4_ := Aside0.mk (Kd.R_below (by (with_reducible repeat (first | apply Kd.R_alloc | apply Kd.R_drewN | apply Kd.R_drew)); exact HO_592003.out) hb); have n5_ := Aside0.mk (blk_below (g := gb579) (o := .cells #[.string a0_0, .bool a0_1, .int .i64 a0_2, .int .i64 a0_3, .slice A0_4 l0_4.length c0_4, .slice A0_5 l0_5.length c0_5] 31 (0, 0)) (by (with_reducible repeat (first | refine blk_drewN ?_ _ | refine blk_drew ?_ | refine blk_alloc ?_ _)); exact BK579.out) hb); have n6_ := Aside0.mk (blk_below (g := gb591) (o := .cells #[.int .i64 t582, .slice Ao26 t583.length co26, .int .i64 t586, .slice Ao27 t587.length co27] 67 (0, 0)) (by (with_reducible repeat (first | refine blk_drewN ?_ _ | refine blk_drew ?_ | refine blk_alloc ?_ _)); exact BK591.out) hb); have n7_ := Aside0.mk (below_step (by repeat (first | (with_reducible first | exact HB.out | apply below_alloc | apply pw_below_drewN | apply below_drew1 | refine below_set ?_ GE579.out | refine below_set ?_ GE591.out) | exact HB.out)) hb); clear HO_9; clear HO_10; clear HO_11; clear HO_592001; clear HO_592003; clear BK579; clear BK591; clear HB; have HO_9 := n0_; have HO_10 := n1_; have HO_11 := n2_; have HO_592001 := n3_; have HO_592003 := n4_; have BK579 := n5_; have BK591 := n6_; have HB := n7_; clear n0_ n1_ n2_ n3_ n4_ n5_ n6_ n7_; (try clear hb); (try clear hb2); (try clear hk); (try clear hi))))
                       go_ret
                       exact ⟨by first | rfl | (simp [errW_none, errW_some] <;> rfl) | (simp [*, errW_none, errW_some] <;> rfl), by repeat (first | (with_reducible first | exact HB.out | apply below_alloc | apply pw_below_drewN | apply below_drew1 | refine below_set ?_ GE579.out | refine below_set ?_ GE591.out) | exact HB.out)⟩
         ·
          rw [if_neg c39] at H
          exact absurd H (by simp)
        ·
         rw [if_neg c38] at H
         exact absurd H (by simp)
    ·
     rw [if_neg c19] at H
     have c19b0 : (t590 == 0) = false := beq_eq_false_iff_ne.mpr c19
     have c19b1 : (t590 != 0) = true := bne_iff_ne.mpr c19
     replace H := Option.bind_eq_some_iff.mp H
     obtain ⟨t592, A1190, H⟩ := H
     replace H : (some t592) = some r := H
     have A119 := Aside0.mk A1190
     clear A1190
     obtain rfl := Option.some.inj H
     have hcz120_0 : wc.cell? ⟨gb579, 0, none⟩ = some (.string a0_0) := (blk_cell BK579.out 0).trans rfl
     have hcz120_1 : wc.cell? ⟨gb579, 1, none⟩ = some (.bool a0_1) := (blk_cell BK579.out 1).trans rfl
     have hcz120_2 : wc.cell? ⟨gb579, 2, none⟩ = some (.int .i64 a0_2) := (blk_cell BK579.out 2).trans rfl
     have hcz120_3 : wc.cell? ⟨gb579, 3, none⟩ = some (.int .i64 a0_3) := (blk_cell BK579.out 3).trans rfl
     have hcz120_4 : wc.cell? ⟨gb579, 4, none⟩ = some (.slice A0_4 l0_4.length c0_4) := (blk_cell BK579.out 4).trans rfl
     have hcz120_5 : wc.cell? ⟨gb579, 5, none⟩ = some (.slice A0_5 l0_5.length c0_5) := (blk_cell BK579.out 5).trans rfl
     have hfz120_0 := blk_frozen BK579.out 0
     have hfz120_1 := blk_frozen BK579.out 1
     have hfz120_2 := blk_frozen BK579.out 2
     have hfz120_3 := blk_frozen BK579.out 3
     have hfz120_4 := blk_frozen BK579.out 4
     have hfz120_5 := blk_frozen BK579.out 5
     go_wp2_with (first | (go_at_call 33; (with_reducible refine (frame_Lay.calls kj3 a0_0 a0_1 a0_2 a0_3 _ _ l0_4 _ _ l0_5 _ _ l1 a2 t582 t583 t586 t587 t590 _ ?side1 ?side2 ?side3 ?side4 ?side5 ?side6 A18.out).mono ?_); (case side1 => repeat (first | exact (Kd.C_below HR0_4.out HB.out) | (with_reducible refine Kd.C_alloc ?_ _) | (with_reducible refine Kd.C_drewN ?_ _) | (with_reducible refine Kd.C_drew ?_))); (case side2 => exact HC0_4.out); (case side3 => repeat (first | exact (Kd.C_below HR0_5.out HB.out) | (with_reducible refine Kd.C_alloc ?_ _) | (with_reducible refine Kd.C_drewN ?_ _) | (with_reducible refine Kd.C_drew ?_))); (case side4 => exact HC0_5.out); (case side5 => repeat (first | exact (Kd.C_below HR1.out HB.out) | (with_reducible refine Kd.C_alloc ?_ _) | (with_reducible refine Kd.C_drewN ?_ _) | (with_reducible refine Kd.C_drew ?_))); (case side6 => exact HC1.out); rintro e w121 ⟨v584, v588, rfl, ho0, ho1, hb⟩; have n0_ := Aside0.mk (Kd.R_lower ho0 (below_size (by repeat (first | (with_reducible first | exact HB.out | apply below_alloc | apply pw_below_drewN | apply below_drew1 | refine below_set ?_ GE579.out) | exact HB.out)))); have n1_ := Aside0.mk (Kd.R_lower ho1 (below_size (by repeat (first | (with_reducible first | exact HB.out | apply below_alloc | apply pw_below_drewN | apply below_drew1 | refine below_set ?_ GE579.out) | exact HB.out)))); have n2_ := Aside0.mk (blk_below (g := gb579) (o := .cells #[.string a0_0, .bool a0_1, .int .i64 a0_2, .int .i64 a0_3, .slice A0_4 l0_4.length c0_4, .slice A0_5 l0_5.length c0_5] 31 (0, 0)) (by (with_reducible repeat (first | refine blk_drewN ?_ _ | refine blk_drew ?_ | refine blk_alloc ?_ _)); exact BK579.out) hb); have n3_ := Aside0.mk (below_step (by repeat (first | (with_reducible first | exact HB.out | apply below_alloc | apply pw_below_drewN | apply below_drew1 | refine below_set ?_ GE579.out) | exact HB.out)) hb); clear BK579; clear HB; have HO585 := n0_; have HO589 := n1_; have BK579 := n2_; have HB := n3_; clear n0_ n1_ n2_ n3_; (try clear hb); (try clear hb2); (try clear hk); (try clear hi); (try clear ho0); (try clear ho1)) | ((with_reducible refine gate_dst (N := 7) rfl ?_); (try (refine gate_guard (by rfl) ?_; dsimp only)); refine box_event ?hg (N := 7) ?hd (cs := #[.int .i64 0, .slice none 0 0, .int .i64 0, .slice none 0 0]) (t := 67) ?hr ?_; (case hd => rfl); (case hg => rfl); (case hr => first | (go_simp; done) | (go_simp; rfl)); intro gb591 hg w122 hbox hb; have n0_ := Aside0.mk (Kd.R_below (by (with_reducible repeat (first | apply Kd.R_alloc | apply Kd.R_drewN | apply Kd.R_drew)); exact HO585.out) hb); have n1_ := Aside0.mk (Kd.R_below (by (with_reducible repeat (first | apply Kd.R_alloc | apply Kd.R_drewN | apply Kd.R_drew)); exact HO589.out) hb); have n2_ := Aside0.mk (blk_below (g := gb579) (o := .cells #[.string a0_0, .bool a0_1, .int .i64 a0_2, .int .i64 a0_3, .slice A0_4 l0_4.length c0_4, .slice A0_5 l0_5.length c0_5] 31 (0, 0)) (by (with_reducible repeat (first | refine blk_drewN ?_ _ | refine blk_drew ?_ | refine blk_alloc ?_ _)); exact BK579.out) hb); have n3_ := Aside0.mk (below_step (by repeat (first | (with_reducible first | exact HB.out | apply below_alloc | apply pw_below_drewN | apply below_drew1 | refine below_set ?_ GE579.out) | exact HB.out)) hb); have n4_ := Aside0.mk (hbox); have n5_ := Aside0.mk ((by rw [hg]; exact (below_size (by repeat (first | (with_reducible first | exact HB.out | apply below_alloc | apply pw_below_drewN | apply below_drew1 | refine below_set ?_ GE579.out) | exact HB.out))) : w.heap.size ≤ gb591)); have n6_ := Aside0.mk ((by rw [hg]; exact (below_size (by repeat (first | (with_reducible first | exact HB.out | apply below_alloc | apply pw_below_drewN | apply below_drew1 | refine below_set ?_ GE579.out) | exact HB.out))) : w.heap.size ≤ gb591)); have n7_ := Aside0.mk ((by rw [hg]; exact Nat.ne_of_lt (blk_lt (g := gb579) (o := .cells #[.string a0_0, .bool a0_1, .int .i64 a0_2, .int .i64 a0_3, .slice A0_4 l0_4.length c0_4, .slice A0_5 l0_5.length c0_5] 31 (0, 0)) (by (with_reducible repeat (first | refine blk_drewN ?_ _ | refine blk_drew ?_ | refine blk_alloc ?_ _)); exact BK579.out)) : gb579 ≠ gb591)); have n8_ := Aside0.mk ((by rw [hg]; exact Nat.ne_of_gt (blk_lt (g := gb579) (o := .cells #[.string a0_0, .bool a0_1, .int .i64 a0_2, .int .i64 a0_3, .slice A0_4 l0_4.length c0_4, .slice A0_5 l0_5.length c0_5] 31 (0, 0)) (by (with_reducible repeat (first | refine blk_drewN ?_ _ | refine blk_drew ?_ | refine blk_alloc ?_ _)); exact BK579.out)) : gb591 ≠ gb579)); clear HO585; clear HO589; clear BK579; clear HB; have HO585 := n0_; have HO589 := n1_; have BK579 := n2_; have HB := n3_; have BK591 := n4_; have GW591 := n5_; have GE591 := n6_; have NB579_591 := n7_; have NB591_579 := n8_; clear n0_ n1_ n2_ n3_ n4_ n5_ n6_ n7_ n8_; clear hb hbox hg; have hnb123 := NB591_579.out; have hnc123 := NB579_591.out; have hcz124_0 : w122.cell? ⟨gb591, 0, none⟩ = some (.int .i64 0) := (blk_cell BK591.out 0).trans rfl; have hcz124_1 : w122.cell? ⟨gb591, 1, none⟩ = some (.slice none 0 0) := (blk_cell BK591.out 1).trans rfl; have hcz124_2 : w122.cell? ⟨gb591, 2, none⟩ = some (.int .i64 0) := (blk_cell BK591.out 2).trans rfl; have hcz124_3 : w122.cell? ⟨gb591, 3, none⟩ = some (.slice none 0 0) := (blk_cell BK591.out 3).trans rfl; have hfz124_0 := blk_frozen BK591.out 0; have hfz124_1 := blk_frozen BK591.out 1; have hfz124_2 := blk_frozen BK591.out 2; have hfz124_3 := blk_frozen BK591.out 3; obtain ⟨Ao125, co125, eo125⟩ := Kd.R_slice HO585.out; subst eo125; obtain ⟨Ao126, co126, eo126⟩ := Kd.R_slice HO589.out; subst eo126) | (go_at_call 32; (with_reducible refine (rushlightlaw25_awake.calls kj3  t592 _ A119.out).mono ?_); rintro e w127 ⟨rfl, hb⟩; have n0_ := Aside0.mk (Kd.R_below (by (with_reducible repeat (first | apply Kd.R_alloc | apply Kd.R_drewN | apply Kd.R_drew)); exact (Kd.R_mono (Kd.R_far (p := ⟨gb591, 3, none⟩) (Kd.R_far (p := ⟨gb591, 2, none⟩) (Kd.R_far (p := ⟨gb591, 1, none⟩) (Kd.R_far (p := ⟨gb591, 0, none⟩) (Kd.R_types HO585.out BK591.out (by decide)) (fun _ hk => hk.2) (.int .i64 t582)) (fun _ hk => hk.2) (.slice Ao125 t583.length co125)) (fun _ hk => hk.2) (.int .i64 t586)) (fun _ hk => hk.2) (.slice Ao126 t587.length co126)) (fun _ h_ => h_.1))) hb); have n1_ := Aside0.mk (Kd.R_below (by (with_reducible repeat (first | apply Kd.R_alloc | apply Kd.R_drewN | apply Kd.R_drew)); exact (Kd.R_mono (Kd.R_far (p := ⟨gb591, 3, none⟩) (Kd.R_far (p := ⟨gb591, 2, none⟩) (Kd.R_far (p := ⟨gb591, 1, none⟩) (Kd.R_far (p := ⟨gb591, 0, none⟩) (Kd.R_types HO589.out BK591.out (by decide)) (fun _ hk => hk.2) (.int .i64 t582)) (fun _ hk => hk.2) (.slice Ao125 t583.length co125)) (fun _ hk => hk.2) (.int .i64 t586)) (fun _ hk => hk.2) (.slice Ao126 t587.length co126)) (fun _ h_ => h_.1))) hb); have n2_ := Aside0.mk (blk_below (g := gb579) (o := .cells #[.string a0_0, .bool a0_1, .int .i64 a0_2, .int .i64 a0_3, .slice A0_4 l0_4.length c0_4, .slice A0_5 l0_5.length c0_5] 31 (0, 0)) (by (with_reducible repeat (first | refine blk_drewN ?_ _ | refine blk_drew ?_ | refine blk_alloc ?_ _)); refine blk_far ?_ NB579_591.out _; (with_reducible repeat (first | refine blk_drewN ?_ _ | refine blk_drew ?_ | refine blk_alloc ?_ _)); refine blk_far ?_ NB579_591.out _; (with_reducible repeat (first | refine blk_drewN ?_ _ | refine blk_drew ?_ | refine blk_alloc ?_ _)); refine blk_far ?_ NB579_591.out _; (with_reducible repeat (first | refine blk_drewN ?_ _ | refine blk_drew ?_ | refine blk_alloc ?_ _)); refine blk_far ?_ NB579_591.out _; (with_reducible repeat (first | refine blk_drewN ?_ _ | refine blk_drew ?_ | refine blk_alloc ?_ _)); exact BK579.out) hb); have n3_ := Aside0.mk (blk_below (g := gb591) (o := .cells #[.int .i64 t582, .slice Ao125 t583.length co125, .int .i64 t586, .slice Ao126 t587.length co126] 67 (0, 0)) (by (with_reducible repeat (first | refine blk_drewN ?_ _ | refine blk_drew ?_ | refine blk_alloc ?_ _)); refine blk_put (cs := #[.int .i64 t582, .slice Ao125 t583.length co125, .int .i64 t586, .slice none 0 0]) ?_ 3 _ rfl; (with_reducible repeat (first | refine blk_drewN ?_ _ | refine blk_drew ?_ | refine blk_alloc ?_ _)); refine blk_put (cs := #[.int .i64 t582, .slice Ao125 t583.length co125, .int .i64 0, .slice none 0 0]) ?_ 2 _ rfl; (with_reducible repeat (first | refine blk_drewN ?_ _ | refine blk_drew ?_ | refine blk_alloc ?_ _)); refine blk_put (cs := #[.int .i64 t582, .slice none 0 0, .int .i64 0, .slice none 0 0]) ?_ 1 _ rfl; (with_reducible repeat (first | refine blk_drewN ?_ _ | refine blk_drew ?_ | refine blk_alloc ?_ _)); refine blk_put (cs := #[.int .i64 0, .slice none 0 0, .int .i64 0, .slice none 0 0]) ?_ 0 _ rfl; (with_reducible repeat (first | refine blk_drewN ?_ _ | refine blk_drew ?_ | refine blk_alloc ?_ _)); exact BK591.out) hb); have n4_ := Aside0.mk (below_step (by repeat (first | (with_reducible first | exact HB.out | apply below_alloc | apply pw_below_drewN | apply below_drew1 | refine below_set ?_ GE579.out | refine below_set ?_ GE591.out) | exact HB.out)) hb); clear HO585; clear HO589; clear BK579; clear BK591; clear HB; have HO585 := n0_; have HO589 := n1_; have BK579 := n2_; have BK591 := n3_; have HB := n4_; clear n0_ n1_ n2_ n3_ n4_; (try clear hb); (try clear hb2); (try clear hk); (try clear hi)))
     go_ret
     exact ⟨by first | rfl | (simp [errW_none, errW_some] <;> rfl) | (simp [*, errW_none, errW_some] <;> rfl), by repeat (first | (with_reducible first | exact HB.out | apply below_alloc | apply pw_below_drewN | apply below_drew1 | refine below_set ?_ GE579.out | refine below_set ?_ GE591.out) | exact HB.out)⟩

end Go.Proofs.Ytppanpboejpmjaa.Tr
