/- The pure statement of the law FrameApart, by program (wip/tools/rowgen.py). -/
import Derived.Test.YtppanpboejpmjaaTr20
import Derived.Test.YtppanpboejpmjaaTrTypes
namespace Go.Proofs.Ytppanpboejpmjaa.Say
open Go Go.RowKit Go.Proofs.Ytppanpboejpmjaa.Tr Go.Proofs.Ytppanpboejpmjaa.TrTypes
/-- What is left to show of the law FrameApart: over numbers and lists alone. -/
def FrameApart : Prop := ∀ (x0 : S31) (x1 : (List S80)) (x2 : Int), (g31 x0) → (x1.length ≤ maxLen ∧ ∀ y ∈ x1, g80 y) → ((Lit.int .i64 x2).wf = true) → ∃ k, rushlightlaw25_FrameApart.f k x0.f0 x0.f1 x0.f2 x0.f3 x0.f4 x0.f5 x1 x2 = some true
end Go.Proofs.Ytppanpboejpmjaa.Say
