/- The frames' worked example; no program in sight. -/
import Derived.Test.YtppanpboejpmjaaMathLay
import Derived.Test.YtppanpboejpmjaaTr15
namespace Go.Proofs.Ytppanpboejpmjaa.Math
open Go Go.RowKit Go.Proofs.Ytppanpboejpmjaa.Tr Go.Proofs.Ytppanpboejpmjaa.TrTypes Go.Proofs.YtppanpboejpmjaaW.PrintWords Go.Proofs.YtppanpboejpmjaaW.PrintLast

theorem awake25_ev : Ev (fun k => rushlightlaw25_awake.f k) true :=
  Ev.of rushlightlaw25_awake.mono (k := 40) (by decide +kernel)
end Go.Proofs.Ytppanpboejpmjaa.Math
