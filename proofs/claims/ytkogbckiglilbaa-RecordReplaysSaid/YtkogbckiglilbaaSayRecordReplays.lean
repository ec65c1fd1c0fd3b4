/- The pure statement of the law RecordReplays, by program (wip/tools/rowgen.py). -/
import Derived.Test.YtkogbckiglilbaaAll7
import Derived.Test.YtkogbckiglilbaaAllTypes
namespace Go.Proofs.Ytkogbckiglilbaa.Say
open Go Go.RowKit Go.Proofs.Ytkogbckiglilbaa.All Go.Proofs.Ytkogbckiglilbaa.AllTypes
/-- What is left to show of the law RecordReplays: over numbers and lists alone. -/
def RecordReplays : Prop := ∀ (x0 : S40), (g40 x0) → ∃ k, rushlightlaw04_RecordReplays.f k x0.f0 x0.f1 x0.f2 x0.f3 = some true
end Go.Proofs.Ytkogbckiglilbaa.Say
