/- The pure statement of the law RecordBegins, by program (wip/tools/rowgen.py). -/
import Derived.Test.YtkogbckiglilbaaAll5
import Derived.Test.YtkogbckiglilbaaAllTypes
namespace Go.Proofs.Ytkogbckiglilbaa.Say
open Go Go.RowKit Go.Proofs.Ytkogbckiglilbaa.All Go.Proofs.Ytkogbckiglilbaa.AllTypes
/-- What is left to show of the law RecordBegins: over numbers and lists alone. -/
def RecordBegins : Prop := ∀ (x0 : (List S38)) (x1 : (List Int)), (x0.length ≤ maxLen ∧ ∀ y ∈ x0, g38 y) → (x1.length ≤ maxLen ∧ ∀ y ∈ x1, (Lit.int .u32 y).wf = true) → ∃ k, rushlightlaw04_RecordBegins.f k x0 x1 = some true
end Go.Proofs.Ytkogbckiglilbaa.Say
