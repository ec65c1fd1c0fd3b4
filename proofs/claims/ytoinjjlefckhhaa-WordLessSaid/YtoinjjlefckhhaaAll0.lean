-- Written by this session's own program (wip/tools/myprint.py over the kit's printer), functions proved by hand among them. Not trusted: Lean checks it.
import Derived.Test.YtoinjjlefckhhaaProg
import Derived.Below
import Derived.Deep.Draws
import Derived.Deep.AppendLies
import Derived.Maps.AppendAt
import Derived.OwnWalk
import Derived.Laws.BytesArg
import Derived.Laws.MakeOwn
import Derived.Laws.OwnMore
import Derived.Deep.OwnRows
import Derived.Tactics
import Derived.Lib.ConvBytes
import Derived.Laws.Slices
import Derived.WalkKit
import Derived.KernelRfl
import Derived.RowKit3
import Derived.Deep.LoopGhost
import Derived.Deep.QuietTactic
import Derived.BigQuiet
import Derived.WideLaws
import Derived.Deep.DeepCutAuto
import Derived.Deep.CutBlock
import Derived.Deep.RegionHeld3
import Derived.Laws.Rows
import Derived.Lib.AppendStr
import Derived.ArgAppend
import Derived.Laws.IdiomCopy
import Derived.OrdersHeld
import Derived.Laws.BitsLemmas
import Derived.RowKit
import Derived.Test.YtoinjjlefckhhaaWWords
import Derived.Test.YtoinjjlefckhhaaWLast
import Derived.Test.YtoinjjlefckhhaaWTab
import Derived.Test.YtoinjjlefckhhaaWFour
import Derived.Test.YtoinjjlefckhhaaWQPut
import Derived.Test.YtoinjjlefckhhaaWApart
import Derived.Test.YtoinjjlefckhhaaWArr
import Derived.Test.YtoinjjlefckhhaaWZeros
import Derived.Test.YtoinjjlefckhhaaWFoot
import Derived.Test.YtoinjjlefckhhaaWKept
import Derived.Test.YtoinjjlefckhhaaWShare
import Derived.Test.YtoinjjlefckhhaaWN
import Derived.Test.YtoinjjlefckhhaaWFootNe
import Derived.Test.YtoinjjlefckhhaaWAt
import Derived.Test.YtoinjjlefckhhaaWEqStruct
import Derived.Test.YtoinjjlefckhhaaWRepsOne
import Derived.Test.YtoinjjlefckhhaaWInv
import Derived.Test.YtoinjjlefckhhaaWInvWords
import Derived.Test.YtoinjjlefckhhaaWGuard
import Derived.Test.YtoinjjlefckhhaaWNEv
import Derived.Test.YtoinjjlefckhhaaWMore
namespace Go.Proofs.Ytoinjjlefckhhaa.All
open Go.RowKit Go.Proofs.YtoinjjlefckhhaaW.PrintWords Go.Proofs.YtoinjjlefckhhaaW.PrintLast Go.Proofs.YtoinjjlefckhhaaW.PrintMore
attribute [local go_sem] max2_int min2_int max_two min_two max_three min_three max_four min_four   -- for this text's walks alone
set_option linter.unusedVariables false
set_option linter.unusedSimpArgs false



def errW : Option Int → Value
  | none => .nilIface
  | some c => .iface 0 (.int .i64 c)
theorem errW_none : errW none = .nilIface := rfl
theorem errW_some (c : Int) : errW (some c) = .iface 0 (.int .i64 c) := rfl

-- the values' own types

end Go.Proofs.Ytoinjjlefckhhaa.All
