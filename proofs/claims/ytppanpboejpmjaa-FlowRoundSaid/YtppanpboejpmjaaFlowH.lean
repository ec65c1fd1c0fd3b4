/- FlowH: functions of the program walked by hand, and what they come to. -/
import Derived.Test.YtppanpboejpmjaaProg
import Derived.Below
import Derived.Deep.Draws
import Derived.Deep.AppendLies
import Derived.Maps.AppendAt
import Derived.OwnWalk
import Derived.Laws.BytesArg
import Derived.Laws.MakeOwn
import Derived.Laws.OwnMore
import Derived.Deep.OwnRows
import Derived.Tactics
import Derived.Lib.ConvBytes
import Derived.Laws.Slices
import Derived.WalkKit
import Derived.KernelRfl
import Derived.RowKit3
import Derived.Deep.LoopGhost
import Derived.Deep.QuietTactic
import Derived.BigQuiet
import Derived.WideLaws
import Derived.Deep.DeepCutAuto
import Derived.Deep.CutBlock
import Derived.Deep.RegionHeld3
import Derived.Laws.Rows
import Derived.Lib.AppendStr
import Derived.ArgAppend
import Derived.Laws.IdiomCopy
import Derived.OrdersHeld
import Derived.Laws.BitsLemmas
import Derived.RowKit
import Derived.Shelf.SlicesE.DeleteFunc
import Derived.Test.YtppanpboejpmjaaWWords
import Derived.Test.YtppanpboejpmjaaWLast
import Derived.Test.YtppanpboejpmjaaWTab
import Derived.Test.YtppanpboejpmjaaWFour
import Derived.Test.YtppanpboejpmjaaWQPut
import Derived.Test.YtppanpboejpmjaaWApart
import Derived.Test.YtppanpboejpmjaaWArr
import Derived.Test.YtppanpboejpmjaaWZeros
import Derived.Test.YtppanpboejpmjaaWFoot
import Derived.Test.YtppanpboejpmjaaWKept
import Derived.Test.YtppanpboejpmjaaWShare
import Derived.Test.YtppanpboejpmjaaWN
import Derived.Test.YtppanpboejpmjaaWFootNe
import Derived.Test.YtppanpboejpmjaaWAt
import Derived.Test.YtppanpboejpmjaaWEqStruct
import Derived.Test.YtppanpboejpmjaaWRepsOne
import Derived.Test.YtppanpboejpmjaaWInv
import Derived.Test.YtppanpboejpmjaaWInvWords
import Derived.Test.YtppanpboejpmjaaWGuard
import Derived.Test.YtppanpboejpmjaaWNEv
import Derived.Test.YtppanpboejpmjaaWMore
import Derived.Test.YtppanpboejpmjaaTr0
import Derived.Test.YtppanpboejpmjaaFlowG
import Derived.Outline
set_option linter.all false
namespace Go.Proofs.Ytppanpboejpmjaa.Tr
open Go.RowKit Go.Proofs.YtppanpboejpmjaaW.PrintWords Go.Proofs.YtppanpboejpmjaaW.PrintLast Go.Proofs.YtppanpboejpmjaaW.PrintMore
set_option linter.unusedVariables false
def flow_marks (l : List Int) (n : Nat) : List Bool := l.foldl (fun b x => b.set x.toNat true) (List.replicate n false)
theorem flow_marks_length (l : List Int) (n : Nat) : (flow_marks l n).length = n := by
  have h : ∀ (l : List Int) (b : List Bool), (l.foldl (fun b x => b.set x.toNat true) b).length = b.length := by
    intro l
    induction l with
    | nil => intro b; rfl
    | cons a l ih => intro b; rw [List.foldl_cons, ih, List.length_set]
  unfold flow_marks
  rw [h, List.length_replicate]
theorem flow_marks_step (l : List Int) (n i : Nat) (hi : i < l.length) : flow_marks (l.take (i + 1)) n = (flow_marks (l.take i) n).set l[i].toNat true := by
  unfold flow_marks
  rw [List.take_succ_eq_append_getElem hi, List.foldl_append]
  rfl
def flow_Reach.f (k : Nat) (a0_0 : ByteArray) (a0_1 : Bool) (a0_2 : Int) (a0_3 : Int) (l0_4 : List (S76)) (l0_5 : List (S45)) : Option (List Bool) := if l0_5.length ≤ 4000000000000 then (flow_walked.f k a0_0 a0_1 a0_2 a0_3 l0_4 l0_5).bind fun x => (if (∀ n, n ∈ x.2.1 → 0 ≤ n ∧ n < (l0_5.length : Int)) ∧ x.2.1.length ≤ 4000000000000 then some (flow_marks x.2.1 l0_5.length) else none) else none
set_option maxHeartbeats 8000000 in
set_option maxRecDepth 100000 in
theorem flow_Reach.calls (k : Nat) (a0_0 : ByteArray) (a0_1 : Bool) (a0_2 : Int) (a0_3 : Int) (A0_4 : Option Addr) (c0_4 : Nat) (l0_4 : List (S76)) (A0_5 : Option Addr) (c0_5 : Nat) (l0_5 : List (S45)) (r : List Bool) (w : World) (hr0_4 : Kd.C k76 w A0_4 l0_4.length l0_4) (hc0_4 : l0_4.length ≤ c0_4) (hr0_5 : Kd.C k45 w A0_5 l0_5.length l0_5) (hc0_5 : l0_5.length ≤ c0_5) (h : flow_Reach.f k a0_0 a0_1 a0_2 a0_3 l0_4 l0_5 = some r) :
    Calls Try.prog 22 #[.agg #[.string a0_0, .bool a0_1, .int .i64 a0_2, .int .i64 a0_3, .slice A0_4 l0_4.length c0_4, .slice A0_5 l0_5.length c0_5]] w fun e w' => ∃ v0_ : Value, e = .returned (v0_) ∧ Kd.R Kd.bool 4 w' w.heap.size (fun _ => True) v0_ r ∧ Below w.heap.size w w' := by
  have hu100 := Try.underlying100
  have hu31 := Try.underlying31
  have hu46 := Try.underlying46
  have hu41 := Try.underlying41
  unfold flow_Reach.f at h
  by_cases hn : l0_5.length ≤ 4000000000000
  · rw [if_pos hn] at h
    obtain ⟨x, hx, h⟩ := Option.bind_eq_some_iff.1 h
    by_cases hb : (∀ n, n ∈ x.2.1 → 0 ≤ n ∧ n < (l0_5.length : Int)) ∧ x.2.1.length ≤ 4000000000000
    · rw [if_pos hb] at h
      obtain rfl := Option.some.inj h
      have HR4 := Aside0.mk hr0_4
      have HR5 := Aside0.mk hr0_5
      have HC4 := Aside0.mk hc0_4
      have HC5 := Aside0.mk hc0_5
      have HX := Aside0.mk hx
      have HBD := Aside0.mk hb.1
      have hol := hb.2
      have hm4 := run_make_row' (P := Try.prog) 41 4 (.bool false) 1 Try.underlying41 (by kernel_rfl) rfl .i64 .i64 l0_5.length (by omega) (by omega)
      clear hr0_4 hr0_5 hc0_4 hc0_5 hx h hb
      go_enter Try.func22, Try.ntmps22
      go_wp2_with (go_at_call 52; refine (flow_walked.calls k a0_0 a0_1 a0_2 a0_3 A0_4 c0_4 l0_4 A0_5 c0_5 l0_5 x _ (Kd.C_below HR4.out (below_alloc (below_alloc (Below.refl _ _) _) _)) HC4.out (Kd.C_below HR5.out (below_alloc (below_alloc (Below.refl _ _) _) _)) HC5.out hn HX.out).mono ?_; rintro e w1 ⟨wb, sb, vo, vb, rfl, hS⟩; obtain ⟨Ao, co, eo⟩ := Kd.R_slice (Kd.R_of_own (enc := Value.int .i64) (h1 := fun _ => rfl) (ok := fun _ => True) hS.o (fun _ _ => trivial)); subst eo; have OR := Aside0.mk (own_weaken hS.o (base' := w.heap.size) (by rw [World.size_alloc, World.size_alloc]; omega)); have HB1 := Aside0.mk (below_step (below_alloc (below_alloc (Below.refl w.heap.size w) _) _) hS.below); have RB := Aside0.mk (blk_below (blk_new (w.alloc (.cells #[.string a0_0, .bool a0_1, .int .i64 a0_2, .int .i64 a0_3, .slice A0_4 l0_4.length c0_4, .slice A0_5 l0_5.length c0_5] 31)) (.cells (madeCells #[.bool false] l0_5.length) 4)) hS.below); have f7 : w1.cell? ⟨wb, 7, none⟩ = some (.slice Ao x.2.1.length co) := (blk_cell hS.s 7).trans rfl; clear hS)
      rw [World.size_alloc] at RB
      go_loopg [16] x.2.1.length (fun kq v16 w' => ∃ i : Nat, v16 = .int .i64 i ∧ Aside0 (kq + i = x.2.1.length) ∧ i ≤ x.2.1.length ∧ Aside0 (w'.heap[w.heap.size + 1]? = some (.cells (bools (flow_marks (x.2.1.take i) l0_5.length)).toArray 4 (0, 0))) ∧ Aside0 (w'.ownsRow w.heap.size 3 1 (.slice Ao x.2.1.length co) x.2.1.length (nums .i64 x.2.1)) ∧ Aside0 (Below w.heap.size w w'))
      case atStart => exact ⟨0, rfl, ⟨rfl⟩, by omega, ⟨by
        have e : madeCells #[.bool false] l0_5.length = (bools (flow_marks (x.2.1.take 0) l0_5.length)).toArray := by
          apply Array.ext'
          rw [toList_madeCells_one]; simp [bools, flow_marks]
        rw [← e]; exact RB.out⟩, OR, HB1⟩
      case round =>
        obtain ⟨i, rfl, HK, hi, RBr, ORr, HBr⟩ := hrel
        by_cases hlt : i < x.2.1.length
        · obtain ⟨g, cap, ev⟩ := own_shape ORr.out (by omega)
          injection ev with ev _ ec
          subst ev; subst ec
          have hnb := HBD.out x.2.1[i] (List.getElem_mem hlt)
          obtain ⟨nx, hnx⟩ := Int.eq_ofNat_of_zero_le hnb.1
          have hnl : nx < l0_5.length := by omega
          have y0 : wr.cell? ⟨g, i, none⟩ = some (.int .i64 nx) := by
            have := Kd.R_celln (enc := Value.int .i64) (h1 := fun _ => rfl) (0 : Int) (Kd.R_of_own (ok := fun _ => True) ORr.out (fun _ _ => trivial)) (i : Int) (Int.natCast_nonneg _) (by omega)
            simp only [Int.toNat_natCast] at this
            rw [this.1]
            simp [rdOf, hlt, hnx]
          have g1 : wr.cell? ⟨w.heap.size + 1, nx, none⟩ = some (.bool ((flow_marks (x.2.1.take i) l0_5.length).getD nx false)) := (blk_cell RBr.out nx).trans (by
            have hl : nx < (flow_marks (x.2.1.take i) l0_5.length).length := by rw [flow_marks_length]; exact hnl
            simp [bools, List.getElem?_eq_getElem hl])
          have zg := blk_frozen RBr.out nx
          have q1 : (0 : Int) ≤ (i : Int) := Int.natCast_nonneg _
          have q2 : (i : Int) < (x.2.1.length : Int) := by omega
          have q3 : (0 : Int) ≤ (nx : Int) := Int.natCast_nonneg _
          have q4 : (nx : Int) < (l0_5.length : Int) := by omega
          have s1 : (i : Int).toNat = i := Int.toNat_natCast _
          have s2 : (nx : Int).toNat = nx := Int.toNat_natCast _
          have HNX := Aside0.mk hnx
          clear hnb hnx
          go_wp2
          go_roundg (gk - 1)
          case measure => have := HK.out; omega
          case rel =>
            refine ⟨i + 1, by go_num, ⟨by have := HK.out; omega⟩, by omega, ⟨?_⟩, ⟨?_⟩, ⟨below_set HBr.out (by omega)⟩⟩
            · rw [flow_marks_step _ _ _ hlt, HNX.out, Int.toNat_natCast]
              exact blk_put RBr.out nx _ (by simp [bools, List.map_set])
            · exact own_other ORr.out (grown_set wr (w.heap.size + 1) nx _) (own_ne_type ORr.out RBr.out (by decide))
        · have hie : i = x.2.1.length := by omega
          subst hie
          go_wp2
          go_ret
          refine ⟨.slice (some ⟨w.heap.size + 1, 0, none⟩) l0_5.length l0_5.length, rfl, ?_, HBr.out⟩
          have hl := flow_marks_length x.2.1 l0_5.length
          have h1 := RBr.out
          rw [List.take_length] at h1
          refine Kd.R_of_own (enc := Value.bool) (h1 := fun _ => rfl) ⟨by simp [encs], .inr ⟨w.heap.size + 1, l0_5.length, _, by rw [hl], by omega, h1, by rw [hl]; exact Nat.le_refl _, by unfold maxLen; omega, by simp [bools, hl], ?_⟩⟩ (fun _ _ => trivial)
          rw [hl]
          exact List.take_of_length_le (by simp [bools, hl])
    · rw [if_neg hb] at h; cases h
  · rw [if_neg hn] at h; cases h
end Go.Proofs.Ytppanpboejpmjaa.Tr
