/- StoreQ5: functions of the program walked by hand, and what they come to. -/
import Derived.Test.YtplafnaocgifoaaProg
import Derived.Below
import Derived.Deep.Draws
import Derived.Deep.AppendLies
import Derived.Maps.AppendAt
import Derived.OwnWalk
import Derived.Laws.BytesArg
import Derived.Laws.MakeOwn
import Derived.Laws.OwnMore
import Derived.Deep.OwnRows
import Derived.Tactics
import Derived.Lib.ConvBytes
import Derived.Laws.Slices
import Derived.WalkKit
import Derived.KernelRfl
import Derived.RowKit3
import Derived.Deep.LoopGhost
import Derived.Deep.QuietTactic
import Derived.BigQuiet
import Derived.WideLaws
import Derived.Deep.DeepCutAuto
import Derived.Deep.CutBlock
import Derived.Deep.RegionHeld3
import Derived.Laws.Rows
import Derived.Lib.AppendStr
import Derived.ArgAppend
import Derived.Laws.IdiomCopy
import Derived.OrdersHeld
import Derived.Laws.BitsLemmas
import Derived.RowKit
import Derived.Test.YtplafnaocgifoaaWWords
import Derived.Test.YtplafnaocgifoaaWLast
import Derived.Test.YtplafnaocgifoaaWTab
import Derived.Test.YtplafnaocgifoaaWFour
import Derived.Test.YtplafnaocgifoaaWQPut
import Derived.Test.YtplafnaocgifoaaWApart
import Derived.Test.YtplafnaocgifoaaWArr
import Derived.Test.YtplafnaocgifoaaWZeros
import Derived.Test.YtplafnaocgifoaaWFoot
import Derived.Test.YtplafnaocgifoaaWKept
import Derived.Test.YtplafnaocgifoaaWShare
import Derived.Test.YtplafnaocgifoaaWN
import Derived.Test.YtplafnaocgifoaaWFootNe
import Derived.Test.YtplafnaocgifoaaWAt
import Derived.Test.YtplafnaocgifoaaWEqStruct
import Derived.Test.YtplafnaocgifoaaWRepsOne
import Derived.Test.YtplafnaocgifoaaWInv
import Derived.Test.YtplafnaocgifoaaWInvWords
import Derived.Test.YtplafnaocgifoaaWGuard
import Derived.Test.YtplafnaocgifoaaWNEv
import Derived.Test.YtplafnaocgifoaaWMore
import Derived.Test.YtplafnaocgifoaaSt0
import Derived.Test.YtplafnaocgifoaaStoreQ1
import Derived.Test.YtplafnaocgifoaaStoreQ2
import Derived.Test.YtplafnaocgifoaaStoreQ3
import Derived.Test.YtplafnaocgifoaaStoreQ4
import Derived.Outline
set_option linter.all false
namespace Go.Proofs.Ytplafnaocgifoaa.St
open Go.RowKit Go.Proofs.YtplafnaocgifoaaW.PrintWords Go.Proofs.YtplafnaocgifoaaW.PrintLast Go.Proofs.YtplafnaocgifoaaW.PrintMore
theorem law11_StoreBack (w : World) (n at_ : Int) (x : Int) (q : S24) (vi : Bool) (y : Int) (r : S24) (wi : Bool) (hx : 0 ≤ x ∧ x < 4294967296) (hy : 0 ≤ y ∧ y < 4294967296) (hn : -9223372036854775808 ≤ n ∧ n ≤ 9223372036854775807) :
    Calls Try.prog 3 #[.agg #[.int .i64 n, .int .i64 at_, .int .u32 x, .int .i64 q.f0, .int .i64 q.f1, .int .i64 q.f2, .int .i64 q.f3, .bool vi, .int .u32 y, .int .i64 r.f0, .int .i64 r.f1, .int .i64 r.f2, .int .i64 r.f3, .bool wi]] w fun e w' => e = .returned (.bool true) ∧ Below w.heap.size w w' := by
  by_cases c1 : n < 8
  · exact store_Back_bad1 w n at_ x q vi y r wi (decide_eq_true c1)
  by_cases c2 : 300 < n
  · exact store_Back_bad2 w n at_ x q vi y r wi (decide_eq_false c1) (decide_eq_true c2)
  by_cases c3 : at_ < 0
  · exact store_Back_bad3 w n at_ x q vi y r wi (decide_eq_false c1) (decide_eq_false c2) (decide_eq_true c3)
  by_cases c4 : n - 8 < at_
  · exact store_Back_bad4 w n at_ x q vi y r wi (decide_eq_false c1) (decide_eq_false c2) (decide_eq_false c3) (IntWalk.i64_in _ (by omega)) (decide_eq_true c4)
  obtain ⟨N, rfl⟩ := Int.eq_ofNat_of_zero_le (show 0 ≤ n by omega)
  obtain ⟨A, rfl⟩ := Int.eq_ofNat_of_zero_le (show 0 ≤ at_ by omega)
  rcases Bool.eq_false_or_eq_true vi with hv | hv <;> rcases Bool.eq_false_or_eq_true wi with hw | hw
  · exact store_Back_good1 w N A x q vi y r wi hx hy (by omega) (by omega) (by omega) ⟨hv⟩ ⟨hw⟩
  · exact store_Back_good2 w N A x q vi y r wi hx hy (by omega) (by omega) (by omega) ⟨hv⟩ ⟨hw⟩
  · exact store_Back_good3 w N A x q vi y r wi hx hy (by omega) (by omega) (by omega) ⟨hv⟩ ⟨hw⟩
  · exact store_Back_good4 w N A x q vi y r wi hx hy (by omega) (by omega) (by omega) ⟨hv⟩ ⟨hw⟩
end Go.Proofs.Ytplafnaocgifoaa.St
