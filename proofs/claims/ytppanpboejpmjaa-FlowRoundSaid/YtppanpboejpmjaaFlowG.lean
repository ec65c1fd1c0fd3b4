/- FlowG: functions of the program walked by hand, and what they come to. -/
import Derived.Test.YtppanpboejpmjaaProg
import Derived.Below
import Derived.Deep.Draws
import Derived.Deep.AppendLies
import Derived.Maps.AppendAt
import Derived.OwnWalk
import Derived.Laws.BytesArg
import Derived.Laws.MakeOwn
import Derived.Laws.OwnMore
import Derived.Deep.OwnRows
import Derived.Tactics
import Derived.Lib.ConvBytes
import Derived.Laws.Slices
import Derived.WalkKit
import Derived.KernelRfl
import Derived.RowKit3
import Derived.Deep.LoopGhost
import Derived.Deep.QuietTactic
import Derived.BigQuiet
import Derived.WideLaws
import Derived.Deep.DeepCutAuto
import Derived.Deep.CutBlock
import Derived.Deep.RegionHeld3
import Derived.Laws.Rows
import Derived.Lib.AppendStr
import Derived.ArgAppend
import Derived.Laws.IdiomCopy
import Derived.OrdersHeld
import Derived.Laws.BitsLemmas
import Derived.RowKit
import Derived.Shelf.SlicesE.DeleteFunc
import Derived.Test.YtppanpboejpmjaaWWords
import Derived.Test.YtppanpboejpmjaaWLast
import Derived.Test.YtppanpboejpmjaaWTab
import Derived.Test.YtppanpboejpmjaaWFour
import Derived.Test.YtppanpboejpmjaaWQPut
import Derived.Test.YtppanpboejpmjaaWApart
import Derived.Test.YtppanpboejpmjaaWArr
import Derived.Test.YtppanpboejpmjaaWZeros
import Derived.Test.YtppanpboejpmjaaWFoot
import Derived.Test.YtppanpboejpmjaaWKept
import Derived.Test.YtppanpboejpmjaaWShare
import Derived.Test.YtppanpboejpmjaaWN
import Derived.Test.YtppanpboejpmjaaWFootNe
import Derived.Test.YtppanpboejpmjaaWAt
import Derived.Test.YtppanpboejpmjaaWEqStruct
import Derived.Test.YtppanpboejpmjaaWRepsOne
import Derived.Test.YtppanpboejpmjaaWInv
import Derived.Test.YtppanpboejpmjaaWInvWords
import Derived.Test.YtppanpboejpmjaaWGuard
import Derived.Test.YtppanpboejpmjaaWNEv
import Derived.Test.YtppanpboejpmjaaWMore
import Derived.Test.YtppanpboejpmjaaTr0
import Derived.Test.YtppanpboejpmjaaFlowF
import Derived.Outline
set_option linter.all false
namespace Go.Proofs.Ytppanpboejpmjaa.Tr
open Go.RowKit Go.Proofs.YtppanpboejpmjaaW.PrintWords Go.Proofs.YtppanpboejpmjaaW.PrintLast Go.Proofs.YtppanpboejpmjaaW.PrintMore
set_option linter.unusedVariables false
def flow_Order.f (k : Nat) (a0_0 : ByteArray) (a0_1 : Bool) (a0_2 : Int) (a0_3 : Int) (l0_4 : List (S76)) (l0_5 : List (S45)) : Option (List Int) := if l0_5.length ≤ 4000000000000 then (flow_walked.f k a0_0 a0_1 a0_2 a0_3 l0_4 l0_5).bind fun x => some x.2.1 else none
def flow_Back.f (k : Nat) (a0_0 : ByteArray) (a0_1 : Bool) (a0_2 : Int) (a0_3 : Int) (l0_4 : List (S76)) (l0_5 : List (S45)) : Option (List (Int × Int)) := if l0_5.length ≤ 4000000000000 then (flow_walked.f k a0_0 a0_1 a0_2 a0_3 l0_4 l0_5).bind fun x => some x.2.2 else none
set_option maxHeartbeats 8000000 in
set_option maxRecDepth 100000 in
theorem flow_Order.calls (k : Nat) (a0_0 : ByteArray) (a0_1 : Bool) (a0_2 : Int) (a0_3 : Int) (A0_4 : Option Addr) (c0_4 : Nat) (l0_4 : List (S76)) (A0_5 : Option Addr) (c0_5 : Nat) (l0_5 : List (S45)) (r : List Int) (w : World) (hr0_4 : Kd.C k76 w A0_4 l0_4.length l0_4) (hc0_4 : l0_4.length ≤ c0_4) (hr0_5 : Kd.C k45 w A0_5 l0_5.length l0_5) (hc0_5 : l0_5.length ≤ c0_5) (h : flow_Order.f k a0_0 a0_1 a0_2 a0_3 l0_4 l0_5 = some r) :
    Calls Try.prog 20 #[.agg #[.string a0_0, .bool a0_1, .int .i64 a0_2, .int .i64 a0_3, .slice A0_4 l0_4.length c0_4, .slice A0_5 l0_5.length c0_5]] w fun e w' => ∃ v0_ : Value, e = .returned (v0_) ∧ Kd.R (Kd.int .i64) 3 w' w.heap.size (fun _ => True) v0_ r ∧ Below w.heap.size w w' := by
  have hu100 := Try.underlying100
  have hu31 := Try.underlying31
  unfold flow_Order.f at h
  by_cases hn : l0_5.length ≤ 4000000000000
  · rw [if_pos hn] at h
    obtain ⟨x, hx, h⟩ := Option.bind_eq_some_iff.1 h
    obtain rfl := Option.some.inj h
    have HR4 := Aside0.mk hr0_4
    have HR5 := Aside0.mk hr0_5
    have HC4 := Aside0.mk hc0_4
    have HC5 := Aside0.mk hc0_5
    have HX := Aside0.mk hx
    clear hr0_4 hr0_5 hc0_4 hc0_5 hx h
    go_enter Try.func20, Try.ntmps20
    go_wp2_with (go_at_call 52; refine (flow_walked.calls k a0_0 a0_1 a0_2 a0_3 A0_4 c0_4 l0_4 A0_5 c0_5 l0_5 x _ (Kd.C_below HR4.out (below_alloc (Below.refl _ _) _)) HC4.out (Kd.C_below HR5.out (below_alloc (Below.refl _ _) _)) HC5.out hn HX.out).mono ?_; rintro e w1 ⟨wb, sb, vo, vb, rfl, hS⟩; have S1 := Aside0.mk hS; have f7 : w1.cell? ⟨wb, 7, none⟩ = some vo := (blk_cell hS.s 7).trans rfl; clear hS)
    go_ret
    exact ⟨_, rfl, Kd.R_of_own (own_weaken S1.out.o (by rw [World.size_alloc]; omega)) (fun _ _ => trivial), below_step (below_alloc (Below.refl w.heap.size w) (.cells #[.string a0_0, .bool a0_1, .int .i64 a0_2, .int .i64 a0_3, .slice A0_4 l0_4.length c0_4, .slice A0_5 l0_5.length c0_5] 31)) S1.out.below⟩
  · rw [if_neg hn] at h; cases h
set_option maxHeartbeats 8000000 in
set_option maxRecDepth 100000 in
theorem flow_Back.calls (k : Nat) (a0_0 : ByteArray) (a0_1 : Bool) (a0_2 : Int) (a0_3 : Int) (A0_4 : Option Addr) (c0_4 : Nat) (l0_4 : List (S76)) (A0_5 : Option Addr) (c0_5 : Nat) (l0_5 : List (S45)) (r : List (Int × Int)) (w : World) (hr0_4 : Kd.C k76 w A0_4 l0_4.length l0_4) (hc0_4 : l0_4.length ≤ c0_4) (hr0_5 : Kd.C k45 w A0_5 l0_5.length l0_5) (hc0_5 : l0_5.length ≤ c0_5) (h : flow_Back.f k a0_0 a0_1 a0_2 a0_3 l0_4 l0_5 = some r) :
    Calls Try.prog 21 #[.agg #[.string a0_0, .bool a0_1, .int .i64 a0_2, .int .i64 a0_3, .slice A0_4 l0_4.length c0_4, .slice A0_5 l0_5.length c0_5]] w fun e w' => ∃ v0_ : Value, e = .returned (v0_) ∧ w'.ownsRow w.heap.size 52 2 v0_ r.length (r.flatMap fun x => [.int .i64 x.1, .int .i64 x.2]) ∧ Below w.heap.size w w' := by
  have hu100 := Try.underlying100
  have hu31 := Try.underlying31
  unfold flow_Back.f at h
  by_cases hn : l0_5.length ≤ 4000000000000
  · rw [if_pos hn] at h
    obtain ⟨x, hx, h⟩ := Option.bind_eq_some_iff.1 h
    obtain rfl := Option.some.inj h
    have HR4 := Aside0.mk hr0_4
    have HR5 := Aside0.mk hr0_5
    have HC4 := Aside0.mk hc0_4
    have HC5 := Aside0.mk hc0_5
    have HX := Aside0.mk hx
    clear hr0_4 hr0_5 hc0_4 hc0_5 hx h
    go_enter Try.func21, Try.ntmps21
    go_wp2_with (go_at_call 52; refine (flow_walked.calls k a0_0 a0_1 a0_2 a0_3 A0_4 c0_4 l0_4 A0_5 c0_5 l0_5 x _ (Kd.C_below HR4.out (below_alloc (Below.refl _ _) _)) HC4.out (Kd.C_below HR5.out (below_alloc (Below.refl _ _) _)) HC5.out hn HX.out).mono ?_; rintro e w1 ⟨wb, sb, vo, vb, rfl, hS⟩; have S1 := Aside0.mk hS; have f8 : w1.cell? ⟨wb, 8, none⟩ = some vb := (blk_cell hS.s 8).trans rfl; clear hS)
    go_ret
    exact ⟨_, rfl, own_weaken S1.out.b (by rw [World.size_alloc]; omega), below_step (below_alloc (Below.refl w.heap.size w) (.cells #[.string a0_0, .bool a0_1, .int .i64 a0_2, .int .i64 a0_3, .slice A0_4 l0_4.length c0_4, .slice A0_5 l0_5.length c0_5] 31)) S1.out.below⟩
  · rw [if_neg hn] at h; cases h
end Go.Proofs.Ytppanpboejpmjaa.Tr
