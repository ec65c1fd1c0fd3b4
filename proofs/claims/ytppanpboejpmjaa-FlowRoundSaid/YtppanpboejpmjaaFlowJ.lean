/- FlowJ: functions of the program walked by hand, and what they come to. -/
import Derived.Test.YtppanpboejpmjaaProg
import Derived.Below
import Derived.Deep.Draws
import Derived.Deep.AppendLies
import Derived.Maps.AppendAt
import Derived.OwnWalk
import Derived.Laws.BytesArg
import Derived.Laws.MakeOwn
import Derived.Laws.OwnMore
import Derived.Deep.OwnRows
import Derived.Tactics
import Derived.Lib.ConvBytes
import Derived.Laws.Slices
import Derived.WalkKit
import Derived.KernelRfl
import Derived.RowKit3
import Derived.Deep.LoopGhost
import Derived.Deep.QuietTactic
import Derived.BigQuiet
import Derived.WideLaws
import Derived.Deep.DeepCutAuto
import Derived.Deep.CutBlock
import Derived.Deep.RegionHeld3
import Derived.Laws.Rows
import Derived.Lib.AppendStr
import Derived.ArgAppend
import Derived.Laws.IdiomCopy
import Derived.OrdersHeld
import Derived.Laws.BitsLemmas
import Derived.RowKit
import Derived.Shelf.SlicesE.DeleteFunc
import Derived.Test.YtppanpboejpmjaaWWords
import Derived.Test.YtppanpboejpmjaaWLast
import Derived.Test.YtppanpboejpmjaaWTab
import Derived.Test.YtppanpboejpmjaaWFour
import Derived.Test.YtppanpboejpmjaaWQPut
import Derived.Test.YtppanpboejpmjaaWApart
import Derived.Test.YtppanpboejpmjaaWArr
import Derived.Test.YtppanpboejpmjaaWZeros
import Derived.Test.YtppanpboejpmjaaWFoot
import Derived.Test.YtppanpboejpmjaaWKept
import Derived.Test.YtppanpboejpmjaaWShare
import Derived.Test.YtppanpboejpmjaaWN
import Derived.Test.YtppanpboejpmjaaWFootNe
import Derived.Test.YtppanpboejpmjaaWAt
import Derived.Test.YtppanpboejpmjaaWEqStruct
import Derived.Test.YtppanpboejpmjaaWRepsOne
import Derived.Test.YtppanpboejpmjaaWInv
import Derived.Test.YtppanpboejpmjaaWInvWords
import Derived.Test.YtppanpboejpmjaaWGuard
import Derived.Test.YtppanpboejpmjaaWNEv
import Derived.Test.YtppanpboejpmjaaWMore
import Derived.Test.YtppanpboejpmjaaTr0
import Derived.Test.YtppanpboejpmjaaFlowI
import Derived.Shelf.SlicesE.Clone
import Derived.Outline
set_option linter.all false
namespace Go.Proofs.Ytppanpboejpmjaa.Tr
open Go.RowKit Go.Proofs.YtppanpboejpmjaaW.PrintWords Go.Proofs.YtppanpboejpmjaaW.PrintLast Go.Proofs.YtppanpboejpmjaaW.PrintMore
set_option linter.unusedVariables false
def lays49_ren : Go.Shelf.Ren := ⟨fun | 41 => 49 | n => n, fun | 22 => 41 | 23 => 4 | 4 => 4 | n => n, fun | n => n⟩
theorem lays49 : Go.Proofs.SlLaysE0.n41 Try.prog lays49_ren := {
  mixed := by kernel_rfl
  f41 := ⟨Try.f49.name, by decide, Try.func49.trans (congrArg some (by kernel_rfl))⟩
  t4 := Try.underlying4
  a4 := Try.isAgg4
  z4 := Try.sizeOf4
  v4 := Try.zeroValue4
  t22 := Try.underlying41
  a22 := Try.isAgg41
  z22 := Try.sizeOf41
  v22 := Try.zeroValue41 }
theorem flow_info4' : (Try.prog.info? 4).map (fun i => (i.zero, i.size, i.bytes)) = some (some (.bool false), 1, 1) := by kernel_rfl
theorem flow_info4 : ∃ i : TypeInfo, Try.prog.info? 4 = some i ∧ i.zero = some (.bool false) ∧ i.size = 1 ∧ i.bytes = 1 := by
  obtain ⟨i, hi, hz⟩ := Option.map_eq_some_iff.1 flow_info4'
  simp only [Prod.mk.injEq] at hz
  exact ⟨i, hi, hz.1, hz.2.1, hz.2.2⟩
/-- slices.Clone of a row of bools -/
theorem flow_Clone (w : World) (g n c : Nat) (l : List Bool) (hl : l.length = n) (hn : n ≤ 4000000000000) (h : w.heap[g]? = some (.cells (bools l).toArray 4 (0, 0))) :
    Calls Try.prog 49 #[.slice (some ⟨g, 0, none⟩) n c] w fun e w' => ∃ v' : Value, e = .returned v' ∧ Kd.R Kd.bool 4 w' w.heap.size (fun _ => True) v' l ∧ Below w.heap.size w w' := by
  obtain ⟨i0, hi, hz, hs, hb⟩ := flow_info4
  have hcon := AnyE.slices_Clone lays49 i0 (.bool false) 1 1 hi hz hs hb rfl (by decide) Try.sizeOf4 g 0 n c (bools l) w (by simp [bools, hl]) (by unfold maxLen; omega) (by omega)
    (fun j u hj => by rw [Nat.zero_add, blk_cell h]; simpa using hj) (fun u hu => by simp [bools] at hu; rcases hu with ⟨_, rfl⟩ | ⟨_, rfl⟩ <;> rfl)
  refine (show Calls Try.prog 49 _ w _ from hcon).mono ?_
  rintro e w' ⟨v', rfl, ho, _, hB⟩
  exact ⟨v', rfl, Kd.R_of_own (enc := Value.bool) (h1 := fun _ => rfl) (by rw [hl]; exact ho) (fun _ _ => trivial), hB⟩
end Go.Proofs.Ytppanpboejpmjaa.Tr
