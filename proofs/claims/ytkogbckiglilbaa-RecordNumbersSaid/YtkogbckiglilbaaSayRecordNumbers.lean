/- The pure statement of the law RecordNumbers, by program (wip/tools/rowgen.py). -/
import Derived.Test.YtkogbckiglilbaaAll6
import Derived.Test.YtkogbckiglilbaaAllTypes
namespace Go.Proofs.Ytkogbckiglilbaa.Say
open Go Go.RowKit Go.Proofs.Ytkogbckiglilbaa.All Go.Proofs.Ytkogbckiglilbaa.AllTypes
/-- What is left to show of the law RecordNumbers: over numbers and lists alone. -/
def RecordNumbers : Prop := ∀ (x0 : (List S38)), (x0.length ≤ maxLen ∧ ∀ y ∈ x0, g38 y) → ∃ k, rushlightlaw04_RecordNumbers.f k x0 = some true
end Go.Proofs.Ytkogbckiglilbaa.Say
