/- FlowV: functions of the program walked by hand, and what they come to. -/
import Derived.Test.YtppanpboejpmjaaProg
import Derived.Below
import Derived.Deep.Draws
import Derived.Deep.AppendLies
import Derived.Maps.AppendAt
import Derived.OwnWalk
import Derived.Laws.BytesArg
import Derived.Laws.MakeOwn
import Derived.Laws.OwnMore
import Derived.Deep.OwnRows
import Derived.Tactics
import Derived.Lib.ConvBytes
import Derived.Laws.Slices
import Derived.WalkKit
import Derived.KernelRfl
import Derived.RowKit3
import Derived.Deep.LoopGhost
import Derived.Deep.QuietTactic
import Derived.BigQuiet
import Derived.WideLaws
import Derived.Deep.DeepCutAuto
import Derived.Deep.CutBlock
import Derived.Deep.RegionHeld3
import Derived.Laws.Rows
import Derived.Lib.AppendStr
import Derived.ArgAppend
import Derived.Laws.IdiomCopy
import Derived.OrdersHeld
import Derived.Laws.BitsLemmas
import Derived.RowKit
import Derived.Shelf.SlicesE.DeleteFunc
import Derived.Test.YtppanpboejpmjaaWWords
import Derived.Test.YtppanpboejpmjaaWLast
import Derived.Test.YtppanpboejpmjaaWTab
import Derived.Test.YtppanpboejpmjaaWFour
import Derived.Test.YtppanpboejpmjaaWQPut
import Derived.Test.YtppanpboejpmjaaWApart
import Derived.Test.YtppanpboejpmjaaWArr
import Derived.Test.YtppanpboejpmjaaWZeros
import Derived.Test.YtppanpboejpmjaaWFoot
import Derived.Test.YtppanpboejpmjaaWKept
import Derived.Test.YtppanpboejpmjaaWShare
import Derived.Test.YtppanpboejpmjaaWN
import Derived.Test.YtppanpboejpmjaaWFootNe
import Derived.Test.YtppanpboejpmjaaWAt
import Derived.Test.YtppanpboejpmjaaWEqStruct
import Derived.Test.YtppanpboejpmjaaWRepsOne
import Derived.Test.YtppanpboejpmjaaWInv
import Derived.Test.YtppanpboejpmjaaWInvWords
import Derived.Test.YtppanpboejpmjaaWGuard
import Derived.Test.YtppanpboejpmjaaWNEv
import Derived.Test.YtppanpboejpmjaaWMore
import Derived.Test.YtppanpboejpmjaaTr0
import Derived.Test.YtppanpboejpmjaaFlowU
import Derived.IntWalk
import Derived.Maps.AppendAt
import Derived.Outline
set_option linter.all false
namespace Go.Proofs.Ytppanpboejpmjaa.Tr
open Go.RowKit Go.Proofs.YtppanpboejpmjaaW.PrintWords Go.Proofs.YtppanpboejpmjaaW.PrintLast Go.Proofs.YtppanpboejpmjaaW.PrintMore
set_option linter.unusedVariables false
def ref_Order.f (k : Nat) (a0_0 : ByteArray) (a0_1 : Bool) (a0_2 : Int) (a0_3 : Int) (l0_4 : List (S76)) (l0_5 : List (S45)) : Option (List Int) := if l0_5.length ≤ 4000000000000 then (ref_Walked.f k a0_0 a0_1 a0_2 a0_3 l0_4 l0_5).bind fun x => (if x.2.1.length ≤ 4000000000000 then some x.2.1.reverse else none) else none
set_option maxHeartbeats 8000000 in
set_option maxRecDepth 100000 in
theorem ref_Order.calls (k : Nat) (a0_0 : ByteArray) (a0_1 : Bool) (a0_2 : Int) (a0_3 : Int) (A0_4 : Option Addr) (c0_4 : Nat) (l0_4 : List (S76)) (A0_5 : Option Addr) (c0_5 : Nat) (l0_5 : List (S45)) (r : List Int) (w : World) (hr0_4 : Kd.C k76 w A0_4 l0_4.length l0_4) (hc0_4 : l0_4.length ≤ c0_4) (hr0_5 : Kd.C k45 w A0_5 l0_5.length l0_5) (hc0_5 : l0_5.length ≤ c0_5) (h : ref_Order.f k a0_0 a0_1 a0_2 a0_3 l0_4 l0_5 = some r) :
    Calls Try.prog 29 #[.agg #[.string a0_0, .bool a0_1, .int .i64 a0_2, .int .i64 a0_3, .slice A0_4 l0_4.length c0_4, .slice A0_5 l0_5.length c0_5]] w fun e w' => ∃ v0_ : Value, e = .returned (v0_) ∧ Kd.R (Kd.int .i64) 3 w' w.heap.size (fun _ => True) v0_ r ∧ Below w.heap.size w w' := by
  have hu61 := Try.underlying61
  have hu31 := Try.underlying31
  have hu46 := Try.underlying46
  unfold ref_Order.f at h
  by_cases hn : l0_5.length ≤ 4000000000000
  · rw [if_pos hn] at h
    obtain ⟨x, hx, h⟩ := Option.bind_eq_some_iff.1 h
    by_cases hl : x.2.1.length ≤ 4000000000000
    · rw [if_pos hl] at h
      obtain rfl := Option.some.inj h
      have HR4 := Aside0.mk hr0_4
      have HR5 := Aside0.mk hr0_5
      have HC4 := Aside0.mk hc0_4
      have HC5 := Aside0.mk hc0_5
      have HX := Aside0.mk hx
      clear hr0_4 hr0_5 hc0_4 hc0_5 hx h
      have s0 : wrap64 ((x.2.1.length : Int) - 1) = (x.2.1.length : Int) - 1 := by unfold wrap64; omega
      have s0' : IntKind.i64.wrap ((x.2.1.length : Int) - 1) = (x.2.1.length : Int) - 1 := IntWalk.i64_in _ (by omega)
      go_enter Try.func29, Try.ntmps29
      go_wp2_with (go_at_call 27; refine (ref_Walked.calls k a0_0 a0_1 a0_2 a0_3 A0_4 c0_4 l0_4 A0_5 c0_5 l0_5 x _ (Kd.C_below HR4.out (below_alloc (Below.refl _ _) _)) HC4.out (Kd.C_below HR5.out (below_alloc (Below.refl _ _) _)) HC5.out hn HX.out).mono ?_; rintro e w1 ⟨As, ns, cs, vo, vb, rfl, ho, hb, hB⟩; obtain ⟨Ao, co, eo⟩ := own_slice ho; subst eo; obtain ⟨Ab, cb, eb⟩ := own_slice hb; subst eb; have OR := Aside0.mk (own_weaken ho (base' := w.heap.size) (by rw [World.size_alloc]; omega)); have HB1 := Aside0.mk (below_step (below_alloc (Below.refl w.heap.size w) _) hB); clear ho hb hB)
      have BX := Aside0.mk (blk_new w1 (.cells #[.slice As ns cs, .slice Ao x.2.1.length co, .slice Ab x.2.2.length cb] 61))
      have OR2 := Aside0.mk (own_other OR.out (grown_below (below_alloc (Below.refl w1.heap.size w1) (.cells #[.slice As ns cs, .slice Ao x.2.1.length co, .slice Ab x.2.2.length cb] 61))) (by simp))
      have HB2 := Aside0.mk (below_alloc HB1.out (.cells #[.slice As ns cs, .slice Ao x.2.1.length co, .slice Ab x.2.2.length cb] 61))
      have hge : w.heap.size ≤ w1.heap.size := HB1.out.size
      clear OR HB1
      go_loopg [3, 5] (x.2.1.length + 1) (fun kq v3 v5 w' => ∃ j : Nat, v5 = .int .i64 ((j : Int) - 1) ∧ Aside0 (kq = j + 1) ∧ j ≤ x.2.1.length ∧ (∃ A c, v3 = .slice A (x.2.1.length - j) c) ∧ Aside0 (w'.ownsRow w.heap.size 3 1 v3 (x.2.1.length - j) (nums .i64 (x.2.1.drop j).reverse)) ∧ Aside0 (w'.ownsRow w.heap.size 3 1 (.slice Ao x.2.1.length co) x.2.1.length (nums .i64 x.2.1)) ∧ Aside0 (∀ b, v3.ownBlock = some b → (Value.slice Ao x.2.1.length co).ownBlock ≠ some b) ∧ Aside0 (w'.heap[w1.heap.size]? = some (.cells #[.slice As ns cs, .slice Ao x.2.1.length co, .slice Ab x.2.2.length cb] 61 (0, 0))) ∧ Aside0 (Below w.heap.size w w'))
      case atStart => exact ⟨x.2.1.length, rfl, ⟨rfl⟩, Nat.le_refl _, ⟨none, 0, by simp⟩, ⟨⟨by simp [nums], .inl ⟨rfl, by simp⟩⟩⟩, OR2, ⟨fun b hb => by cases hb⟩, BX, HB2⟩
      case round =>
        obtain ⟨j, rfl, HK, hj, ⟨A3, c3, rfl⟩, HO, HL, HN, HBX, HBr⟩ := hrel
        rcases j with _ | j
        · have b1 : decide ((0 : Int) ≤ ((0 : Nat) : Int) - 1) = false := by decide
          go_wp2
          go_ret
          refine ⟨_, rfl, ?_, HBr.out⟩
          have h1 := HO.out
          rw [List.drop_zero] at h1
          exact Kd.R_of_own (enc := Value.int .i64) (h1 := fun _ => rfl) (by rw [List.length_reverse]; exact h1) (fun _ _ => trivial)
        · have hjl : j < x.2.1.length := by omega
          have e1 : (((j + 1 : Nat) : Int) - 1) = (j : Int) := by omega
          rw [e1]
          have b1 : decide ((0 : Int) ≤ (j : Int)) = true := decide_eq_true (by omega)
          obtain ⟨g, cap, ev⟩ := own_shape HL.out (by omega)
          injection ev with ev _ ec
          subst ev; subst ec
          have y0 : wr.cell? ⟨g, j, none⟩ = some (.int .i64 x.2.1[j]) := by
            have := Kd.R_celln (enc := Value.int .i64) (h1 := fun _ => rfl) (0 : Int) (Kd.R_of_own (ok := fun _ => True) HL.out (fun _ _ => trivial)) (j : Int) (Int.natCast_nonneg _) (by omega)
            simp only [Int.toNat_natCast] at this
            rw [this.1]
            simp [rdOf, hjl]
          have f1 : wr.cell? ⟨w1.heap.size, 1, none⟩ = some (.slice (some ⟨g, 0, none⟩) x.2.1.length co) := (blk_cell HBX.out 1).trans rfl
          have q1 : (0 : Int) ≤ (j : Int) := Int.natCast_nonneg _
          have q2 : (j : Int) < (x.2.1.length : Int) := by omega
          have s1 : (j : Int).toNat = j := Int.toNat_natCast _
          have s2 : wrap64 ((j : Int) - 1) = (j : Int) - 1 := by unfold wrap64; omega
          have s3 : IntKind.i64.wrap ((j : Int) - 1) = (j : Int) - 1 := IntWalk.i64_in _ (by omega)
          obtain ⟨N, eN⟩ : ∃ N, N = x.2.1.length - (j + 1) := ⟨_, rfl⟩
          have eN2 : x.2.1.length - j = N + 1 := by omega
          rw [← eN] at HO HN ⊢
          have EN := Aside0.mk eN
          have EN2 := Aside0.mk eN2
          have hN : N < 4000000000000 := by omega
          clear e1 eN eN2
          go_wp2_with (at_builtin; refine print_append_cells (w0 := w) (W := wr) w.heap.size rfl (.tmp 16) (.tmp 22) 46 3 (.int .i64 0) 1 8 rfl hu46 info3 rfl (by decide) (by decide) (.slice A3 N c3) N (nums .i64 (x.2.1.drop (j + 1)).reverse) [.int .i64 x.2.1[j]] rfl rfl rfl (by intro u hu; simp at hu; subst hu; rfl) HO.out HBr.out HBr.out.size (by omega) ?_; intro v8 w8 hown8 hB8 hg8 hat8; obtain ⟨ob8, cap8, ev8⟩ := own_shape hown8 (Nat.succ_pos _); subst ev8; have L8 := Aside0.mk (own_other HL.out hg8 (fun b hb he => HN.out b he.symm hb)); have X8 := Aside0.mk (blk_other HBX.out hg8 (fun he => own_ne_type HO.out HBX.out (by decide) w1.heap.size he.symm rfl)); have O8 := Aside0.mk hown8; have B8 := Aside0.mk hB8; have N8 := Aside0.mk (show ∀ b, (Value.slice (some ⟨ob8, 0, none⟩) (N + 1) cap8).ownBlock = some b → (Value.slice (some ⟨g, 0, none⟩) x.2.1.length co).ownBlock ≠ some b from by
            intro b hb he
            rcases hat8 with hh | ⟨b2, h2, h3⟩
            · exact HN.out b (hh ▸ hb) he
            · rw [h2] at hb; injection hb with hb; subst hb
              obtain ⟨_, ⟨ev, _⟩ | ⟨g', cap', cur', ev, _, h4, _⟩⟩ := HL.out
              · cases ev
              · injection ev with ev _ _
                injection ev with ev; injection ev with ev
                subst ev
                have := blk_lt h4
                injection he with he; have he2 : g = b2 := he; omega); clear hown8 hB8 hg8 hat8)
          go_roundg (gk - 1)
          case measure => have := HK.out; omega
          case rel =>
            refine ⟨j, rfl, ⟨by have := HK.out; omega⟩, by omega, ⟨_, _, by rw [EN2.out]⟩, ⟨?_⟩, L8, N8, X8, B8⟩
            have hd : (x.2.1.drop j).reverse = (x.2.1.drop (j + 1)).reverse ++ [x.2.1[j]] := by rw [List.drop_eq_getElem_cons hjl, List.reverse_cons]
            rw [hd, EN2.out]
            have h9 := O8.out
            simpa [nums] using h9
    · rw [if_neg hl] at h; cases h
  · rw [if_neg hn] at h; cases h
end Go.Proofs.Ytppanpboejpmjaa.Tr
