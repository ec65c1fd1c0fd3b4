/- The pure statement of the law RecordFirsts, by program (wip/tools/rowgen.py). -/
import Derived.Test.YtkogbckiglilbaaAll5
import Derived.Test.YtkogbckiglilbaaAllTypes
namespace Go.Proofs.Ytkogbckiglilbaa.Say
open Go Go.RowKit Go.Proofs.Ytkogbckiglilbaa.All Go.Proofs.Ytkogbckiglilbaa.AllTypes
/-- What is left to show of the law RecordFirsts: over numbers and lists alone. -/
def RecordFirsts : Prop := ∀ (x0 : (List S38)), (x0.length ≤ maxLen ∧ ∀ y ∈ x0, g38 y) → ∃ k, rushlightlaw04_RecordFirsts.f k x0 = some true
end Go.Proofs.Ytkogbckiglilbaa.Say
