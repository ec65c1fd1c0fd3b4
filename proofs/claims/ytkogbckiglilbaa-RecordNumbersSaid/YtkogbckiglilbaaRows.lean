/-
  No cell of these rows narrows 'for every input' (looked for: loops, veiled, ifaces, maps, wideKeys, modest, calm, conditions, laid).
  DERIVED. THE GIVEN ROWS OF THIS SEAT. 4 by the template 'for every input the law returns true; each argument reads behind the call as it read before'; 0 by the template 'total and deterministic' (their statements: YtkogbckiglilbaaTotals.lean).
  GIVEN WITH THE SEED: the statements are not yours to turn. If you find one false, say at which input.
  Laid BY PROGRAM, IN A SANDBOX (cutbox-rows.mjs): the forced cells as the released guide's own fill.sh prints them over the translation 7219aa73f3a99ef2… (all of the seat's roots in one cut). By AI agents, Wed Nov 11 2026. No macro, syntax, notation, axiom, sorry.
-/
import Derived.Test.YtkogbckiglilbaaChecked
import GoSem.Claim
import GoSem.ClaimJoined
import GoSem.ClaimMapViews
import Derived.JoinedTies
import Derived.KernelRfl
namespace Go.Proofs.Ytkogbckiglilbaa
/- THE CELL 'sum', in the pinned program and in every row, IS THE sha256 OF THE DUMP (.gsa) THAT YtkogbckiglilbaaProg.lean LOADS. Nothing in Lean hashes anything: it is a label: what it is worth is what the hold of that sum in a sandbox is worth. -/
noncomputable def Try.pinned : Pinned := { name := "ytkogbckiglilbaa", sum := "7219aa73f3a99ef235cb0da72ba89c27b3fe364c4256769d3c34579224307e0b", checked := Try.checked }
namespace Rows
def none {H : Type} : Left H := { results := [], args := [] }

/-- 'rushlightlaw04.RecordFirsts': WHATEVER THE INPUT: true; the input reads as it did. -/
def recordFirstsSpec : ChangeSpec := { name := "recordFirsts", fn := fun _ => fun
  | [d] => { results := [.lit (.bool true)], args := [d] }
  | _ => none }
def recordFirstsRow : OpenClaim := { program := "ytkogbckiglilbaa", sum := "7219aa73f3a99ef235cb0da72ba89c27b3fe364c4256769d3c34579224307e0b", func := "rushlight/rushlightlaw04.RecordFirsts", spec := "recordFirsts", apart := false }
def RecordFirstsSaid : Prop := recordFirstsRow.holds Try.pinned (OpenSpec.ofChange recordFirstsSpec)

/-- ITS FALSE NEIGHBOUR: 'it returns false'. Refute it at one input. -/
def recordFirstsWrong : ChangeSpec := { name := "recordFirsts", fn := fun _ => fun
  | [d] => { results := [.lit (.bool false)], args := [d] }
  | _ => none }
def RecordFirstsWrongFalsely : Prop := recordFirstsRow.holds Try.pinned (OpenSpec.ofChange recordFirstsWrong)

/-- 'rushlightlaw04.RecordBegins': WHATEVER THE INPUT: true; the input reads as it did. -/
def recordBeginsSpec : ChangeSpec := { name := "recordBegins", fn := fun _ => fun
  | [d1, d2] => { results := [.lit (.bool true)], args := [d1, d2] }
  | _ => none }
def recordBeginsRow : OpenClaim := { program := "ytkogbckiglilbaa", sum := "7219aa73f3a99ef235cb0da72ba89c27b3fe364c4256769d3c34579224307e0b", func := "rushlight/rushlightlaw04.RecordBegins", spec := "recordBegins", apart := false }
def RecordBeginsSaid : Prop := recordBeginsRow.holds Try.pinned (OpenSpec.ofChange recordBeginsSpec)

/-- ITS FALSE NEIGHBOUR: 'it returns false'. Refute it at one input. -/
def recordBeginsWrong : ChangeSpec := { name := "recordBegins", fn := fun _ => fun
  | [d1, d2] => { results := [.lit (.bool false)], args := [d1, d2] }
  | _ => none }
def RecordBeginsWrongFalsely : Prop := recordBeginsRow.holds Try.pinned (OpenSpec.ofChange recordBeginsWrong)

/-- 'rushlightlaw04.RecordNumbers': WHATEVER THE INPUT: true; the input reads as it did. -/
def recordNumbersSpec : ChangeSpec := { name := "recordNumbers", fn := fun _ => fun
  | [d] => { results := [.lit (.bool true)], args := [d] }
  | _ => none }
def recordNumbersRow : OpenClaim := { program := "ytkogbckiglilbaa", sum := "7219aa73f3a99ef235cb0da72ba89c27b3fe364c4256769d3c34579224307e0b", func := "rushlight/rushlightlaw04.RecordNumbers", spec := "recordNumbers", apart := false }
def RecordNumbersSaid : Prop := recordNumbersRow.holds Try.pinned (OpenSpec.ofChange recordNumbersSpec)

/-- ITS FALSE NEIGHBOUR: 'it returns false'. Refute it at one input. -/
def recordNumbersWrong : ChangeSpec := { name := "recordNumbers", fn := fun _ => fun
  | [d] => { results := [.lit (.bool false)], args := [d] }
  | _ => none }
def RecordNumbersWrongFalsely : Prop := recordNumbersRow.holds Try.pinned (OpenSpec.ofChange recordNumbersWrong)

/-- 'rushlightlaw04.RecordReplays': WHATEVER THE INPUT: true; the input reads as it did. -/
def recordReplaysSpec : ChangeSpec := { name := "recordReplays", fn := fun _ => fun
  | [d] => { results := [.lit (.bool true)], args := [d] }
  | _ => none }
def recordReplaysRow : OpenClaim := { program := "ytkogbckiglilbaa", sum := "7219aa73f3a99ef235cb0da72ba89c27b3fe364c4256769d3c34579224307e0b", func := "rushlight/rushlightlaw04.RecordReplays", spec := "recordReplays", apart := false }
def RecordReplaysSaid : Prop := recordReplaysRow.holds Try.pinned (OpenSpec.ofChange recordReplaysSpec)

/-- ITS FALSE NEIGHBOUR: 'it returns false'. Refute it at one input. -/
def recordReplaysWrong : ChangeSpec := { name := "recordReplays", fn := fun _ => fun
  | [d] => { results := [.lit (.bool false)], args := [d] }
  | _ => none }
def RecordReplaysWrongFalsely : Prop := recordReplaysRow.holds Try.pinned (OpenSpec.ofChange recordReplaysWrong)

/- THE SECOND FORM. 'bulk': how many values and letters a reading holds, each counted each time it is reached (what is shared counts as often as it is met; a slice's spare places count too). A statement '..UptoSaid' is the law's where the arguments, and the package variables that the reading takes, are together of bulk at most 1048576: NARROWER than '..Said'. Prove '..Said' where nothing that the law and all that it calls make is longer than what came in: it says more and counts as full. Else prove '..UptoSaid'. A law counts once. -/
mutual
def uptoBulk {H : Type} : DataW H → Nat
  | .lit (.string bytes) => bytes.length + 1
  | .lit _ => 1
  | .nil => 1
  | .ptr d => uptoBulk d + 1
  | .slice elems spare => uptoBulkAll elems + uptoBulkAll spare + 1
  | .agg parts => uptoBulkAll parts + 1
  | .iface _ d => uptoBulk d + 1
  | .map entries => uptoBulkEntries entries + 1
  | .held _ => 1
def uptoBulkAll {H : Type} : List (DataW H) → Nat
  | [] => 0
  | d :: r => uptoBulk d + uptoBulkAll r
def uptoBulkEntries {H : Type} : List (Lit × DataW H) → Nat
  | [] => 0
  | x :: r => uptoBulkEntry x + uptoBulkEntries r
def uptoBulkEntry {H : Type} : Lit × DataW H → Nat
  | (.string bytes, d) => bytes.length + uptoBulk d + 1
  | (_, d) => uptoBulk d + 1
 end
def uptoSmall : (H : Type) → List (DataW H) → Bool := fun _ ds => decide (uptoBulkAll ds ≤ 1048576)
def OpenSpec.upto (s : _root_.Go.ChangeSpec) : _root_.Go.OpenSpec := { _root_.Go.OpenSpec.ofChange s with cond := some uptoSmall }

/-- 'rushlightlaw04.RecordFirsts', WHERE WHAT IT READS IS OF BULK AT MOST 1048576: true; the input reads as it did. -/
def recordFirstsUptoRow : OpenClaim := { program := "ytkogbckiglilbaa", sum := "7219aa73f3a99ef235cb0da72ba89c27b3fe364c4256769d3c34579224307e0b", func := "rushlight/rushlightlaw04.RecordFirsts", spec := "recordFirsts", apart := false, narrowed := true }
def RecordFirstsUptoSaid : Prop := recordFirstsUptoRow.holds Try.pinned (OpenSpec.upto recordFirstsSpec)

/-- 'rushlightlaw04.RecordBegins', WHERE WHAT IT READS IS OF BULK AT MOST 1048576: true; the input reads as it did. -/
def recordBeginsUptoRow : OpenClaim := { program := "ytkogbckiglilbaa", sum := "7219aa73f3a99ef235cb0da72ba89c27b3fe364c4256769d3c34579224307e0b", func := "rushlight/rushlightlaw04.RecordBegins", spec := "recordBegins", apart := false, narrowed := true }
def RecordBeginsUptoSaid : Prop := recordBeginsUptoRow.holds Try.pinned (OpenSpec.upto recordBeginsSpec)

/-- 'rushlightlaw04.RecordNumbers', WHERE WHAT IT READS IS OF BULK AT MOST 1048576: true; the input reads as it did. -/
def recordNumbersUptoRow : OpenClaim := { program := "ytkogbckiglilbaa", sum := "7219aa73f3a99ef235cb0da72ba89c27b3fe364c4256769d3c34579224307e0b", func := "rushlight/rushlightlaw04.RecordNumbers", spec := "recordNumbers", apart := false, narrowed := true }
def RecordNumbersUptoSaid : Prop := recordNumbersUptoRow.holds Try.pinned (OpenSpec.upto recordNumbersSpec)

/-- 'rushlightlaw04.RecordReplays', WHERE WHAT IT READS IS OF BULK AT MOST 1048576: true; the input reads as it did. -/
def recordReplaysUptoRow : OpenClaim := { program := "ytkogbckiglilbaa", sum := "7219aa73f3a99ef235cb0da72ba89c27b3fe364c4256769d3c34579224307e0b", func := "rushlight/rushlightlaw04.RecordReplays", spec := "recordReplays", apart := false, narrowed := true }
def RecordReplaysUptoSaid : Prop := recordReplaysUptoRow.holds Try.pinned (OpenSpec.upto recordReplaysSpec)

end Rows
end Go.Proofs.Ytkogbckiglilbaa
