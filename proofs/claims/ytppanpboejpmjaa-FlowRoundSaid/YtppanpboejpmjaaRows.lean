/-
  No cell of these rows narrows 'for every input' (looked for: loops, veiled, ifaces, maps, wideKeys, modest, calm, conditions, laid).
  DERIVED. THE GIVEN ROWS OF THIS SEAT. 9 by the template 'for every input the law returns true; each argument reads behind the call as it read before'; 0 by the template 'total and deterministic' (their statements: YtppanpboejpmjaaTotals.lean).
  GIVEN WITH THE SEED: the statements are not yours to turn. If you find one false, say at which input.
  Laid BY PROGRAM, IN A SANDBOX (cutbox-rows.mjs): the forced cells as the released guide's own fill.sh prints them over the translation 1cbad8852e57ce21… (all of the seat's roots in one cut). By AI agents, Wed Nov 11 2026. No macro, syntax, notation, axiom, sorry.
-/
import Derived.Test.YtppanpboejpmjaaChecked
import GoSem.Claim
import GoSem.ClaimJoined
import GoSem.ClaimMapViews
import Derived.JoinedTies
import Derived.KernelRfl
namespace Go.Proofs.Ytppanpboejpmjaa
/- THE CELL 'sum', in the pinned program and in every row, IS THE sha256 OF THE DUMP (.gsa) THAT YtppanpboejpmjaaProg.lean LOADS. Nothing in Lean hashes anything: it is a label: what it is worth is what the hold of that sum in a sandbox is worth. -/
noncomputable def Try.pinned : Pinned := { name := "ytppanpboejpmjaa", sum := "1cbad8852e57ce21172e93012f8c9836dd244c7704a121474e74f3408b73af3a", checked := Try.checked }
namespace Rows
def none {H : Type} : Left H := { results := [], args := [] }

/-- 'rushlightlaw24.AllocRanges': WHATEVER THE INPUT: true; the input reads as it did. -/
def allocRangesSpec : ChangeSpec := { name := "allocRanges", fn := fun _ => fun
  | [d1, d2] => { results := [.lit (.bool true)], args := [d1, d2] }
  | _ => none }
def allocRangesRow : OpenClaim := { program := "ytppanpboejpmjaa", sum := "1cbad8852e57ce21172e93012f8c9836dd244c7704a121474e74f3408b73af3a", func := "rushlight/rushlightlaw24.AllocRanges", spec := "allocRanges", unfollowed := true, recurses := true, apart := false }
def AllocRangesSaid : Prop := allocRangesRow.holds Try.pinned (OpenSpec.ofChange allocRangesSpec)

/-- ITS FALSE NEIGHBOUR: 'it returns false'. Refute it at one input. -/
def allocRangesWrong : ChangeSpec := { name := "allocRanges", fn := fun _ => fun
  | [d1, d2] => { results := [.lit (.bool false)], args := [d1, d2] }
  | _ => none }
def AllocRangesWrongFalsely : Prop := allocRangesRow.holds Try.pinned (OpenSpec.ofChange allocRangesWrong)

/-- 'rushlightlaw16.FlowLives': WHATEVER THE INPUT: true; the input reads as it did. -/
def flowLivesSpec : ChangeSpec := { name := "flowLives", fn := fun _ => fun
  | [d] => { results := [.lit (.bool true)], args := [d] }
  | _ => none }
def flowLivesRow : OpenClaim := { program := "ytppanpboejpmjaa", sum := "1cbad8852e57ce21172e93012f8c9836dd244c7704a121474e74f3408b73af3a", func := "rushlight/rushlightlaw16.FlowLives", spec := "flowLives", unfollowed := true, recurses := true, apart := false }
def FlowLivesSaid : Prop := flowLivesRow.holds Try.pinned (OpenSpec.ofChange flowLivesSpec)

/-- ITS FALSE NEIGHBOUR: 'it returns false'. Refute it at one input. -/
def flowLivesWrong : ChangeSpec := { name := "flowLives", fn := fun _ => fun
  | [d] => { results := [.lit (.bool false)], args := [d] }
  | _ => none }
def FlowLivesWrongFalsely : Prop := flowLivesRow.holds Try.pinned (OpenSpec.ofChange flowLivesWrong)

/-- 'rushlightlaw16.FlowRound': WHATEVER THE INPUT: true; the input reads as it did. -/
def flowRoundSpec : ChangeSpec := { name := "flowRound", fn := fun _ => fun
  | [d] => { results := [.lit (.bool true)], args := [d] }
  | _ => none }
def flowRoundRow : OpenClaim := { program := "ytppanpboejpmjaa", sum := "1cbad8852e57ce21172e93012f8c9836dd244c7704a121474e74f3408b73af3a", func := "rushlight/rushlightlaw16.FlowRound", spec := "flowRound", unfollowed := true, recurses := true, apart := false }
def FlowRoundSaid : Prop := flowRoundRow.holds Try.pinned (OpenSpec.ofChange flowRoundSpec)

/-- ITS FALSE NEIGHBOUR: 'it returns false'. Refute it at one input. -/
def flowRoundWrong : ChangeSpec := { name := "flowRound", fn := fun _ => fun
  | [d] => { results := [.lit (.bool false)], args := [d] }
  | _ => none }
def FlowRoundWrongFalsely : Prop := flowRoundRow.holds Try.pinned (OpenSpec.ofChange flowRoundWrong)

/-- 'rushlightlaw16.FlowEach': WHATEVER THE INPUT: true; the input reads as it did. -/
def flowEachSpec : ChangeSpec := { name := "flowEach", fn := fun _ => fun
  | [d1, d2] => { results := [.lit (.bool true)], args := [d1, d2] }
  | _ => none }
def flowEachRow : OpenClaim := { program := "ytppanpboejpmjaa", sum := "1cbad8852e57ce21172e93012f8c9836dd244c7704a121474e74f3408b73af3a", func := "rushlight/rushlightlaw16.FlowEach", spec := "flowEach", unfollowed := true, recurses := true, apart := false }
def FlowEachSaid : Prop := flowEachRow.holds Try.pinned (OpenSpec.ofChange flowEachSpec)

/-- ITS FALSE NEIGHBOUR: 'it returns false'. Refute it at one input. -/
def flowEachWrong : ChangeSpec := { name := "flowEach", fn := fun _ => fun
  | [d1, d2] => { results := [.lit (.bool false)], args := [d1, d2] }
  | _ => none }
def FlowEachWrongFalsely : Prop := flowEachRow.holds Try.pinned (OpenSpec.ofChange flowEachWrong)

/-- 'rushlightlaw16.FlowLeads': WHATEVER THE INPUT: true; the input reads as it did. -/
def flowLeadsSpec : ChangeSpec := { name := "flowLeads", fn := fun _ => fun
  | [d] => { results := [.lit (.bool true)], args := [d] }
  | _ => none }
def flowLeadsRow : OpenClaim := { program := "ytppanpboejpmjaa", sum := "1cbad8852e57ce21172e93012f8c9836dd244c7704a121474e74f3408b73af3a", func := "rushlight/rushlightlaw16.FlowLeads", spec := "flowLeads", unfollowed := true, recurses := true, apart := false }
def FlowLeadsSaid : Prop := flowLeadsRow.holds Try.pinned (OpenSpec.ofChange flowLeadsSpec)

/-- ITS FALSE NEIGHBOUR: 'it returns false'. Refute it at one input. -/
def flowLeadsWrong : ChangeSpec := { name := "flowLeads", fn := fun _ => fun
  | [d] => { results := [.lit (.bool false)], args := [d] }
  | _ => none }
def FlowLeadsWrongFalsely : Prop := flowLeadsRow.holds Try.pinned (OpenSpec.ofChange flowLeadsWrong)

/-- 'rushlightlaw25.FrameLays': WHATEVER THE INPUT: true; the input reads as it did. -/
def frameLaysSpec : ChangeSpec := { name := "frameLays", fn := fun _ => fun
  | [d1, d2, d3] => { results := [.lit (.bool true)], args := [d1, d2, d3] }
  | _ => none }
def frameLaysRow : OpenClaim := { program := "ytppanpboejpmjaa", sum := "1cbad8852e57ce21172e93012f8c9836dd244c7704a121474e74f3408b73af3a", func := "rushlight/rushlightlaw25.FrameLays", spec := "frameLays", unfollowed := true, recurses := true, apart := false }
def FrameLaysSaid : Prop := frameLaysRow.holds Try.pinned (OpenSpec.ofChange frameLaysSpec)

/-- ITS FALSE NEIGHBOUR: 'it returns false'. Refute it at one input. -/
def frameLaysWrong : ChangeSpec := { name := "frameLays", fn := fun _ => fun
  | [d1, d2, d3] => { results := [.lit (.bool false)], args := [d1, d2, d3] }
  | _ => none }
def FrameLaysWrongFalsely : Prop := frameLaysRow.holds Try.pinned (OpenSpec.ofChange frameLaysWrong)

/-- 'rushlightlaw25.FrameApart': WHATEVER THE INPUT: true; the input reads as it did. -/
def frameApartSpec : ChangeSpec := { name := "frameApart", fn := fun _ => fun
  | [d1, d2, d3] => { results := [.lit (.bool true)], args := [d1, d2, d3] }
  | _ => none }
def frameApartRow : OpenClaim := { program := "ytppanpboejpmjaa", sum := "1cbad8852e57ce21172e93012f8c9836dd244c7704a121474e74f3408b73af3a", func := "rushlight/rushlightlaw25.FrameApart", spec := "frameApart", unfollowed := true, recurses := true, apart := false }
def FrameApartSaid : Prop := frameApartRow.holds Try.pinned (OpenSpec.ofChange frameApartSpec)

/-- ITS FALSE NEIGHBOUR: 'it returns false'. Refute it at one input. -/
def frameApartWrong : ChangeSpec := { name := "frameApart", fn := fun _ => fun
  | [d1, d2, d3] => { results := [.lit (.bool false)], args := [d1, d2, d3] }
  | _ => none }
def FrameApartWrongFalsely : Prop := frameApartRow.holds Try.pinned (OpenSpec.ofChange frameApartWrong)

/-- 'rushlightlaw24.AllocApart': WHATEVER THE INPUT: true; the input reads as it did. -/
def allocApartSpec : ChangeSpec := { name := "allocApart", fn := fun _ => fun
  | [d1, d2, d3] => { results := [.lit (.bool true)], args := [d1, d2, d3] }
  | _ => none }
def allocApartRow : OpenClaim := { program := "ytppanpboejpmjaa", sum := "1cbad8852e57ce21172e93012f8c9836dd244c7704a121474e74f3408b73af3a", func := "rushlight/rushlightlaw24.AllocApart", spec := "allocApart", unfollowed := true, recurses := true, apart := false }
def AllocApartSaid : Prop := allocApartRow.holds Try.pinned (OpenSpec.ofChange allocApartSpec)

/-- ITS FALSE NEIGHBOUR: 'it returns false'. Refute it at one input. -/
def allocApartWrong : ChangeSpec := { name := "allocApart", fn := fun _ => fun
  | [d1, d2, d3] => { results := [.lit (.bool false)], args := [d1, d2, d3] }
  | _ => none }
def AllocApartWrongFalsely : Prop := allocApartRow.holds Try.pinned (OpenSpec.ofChange allocApartWrong)

/-- 'rushlightlaw24.AllocEnough': WHATEVER THE INPUT: true; the input reads as it did. -/
def allocEnoughSpec : ChangeSpec := { name := "allocEnough", fn := fun _ => fun
  | [d1, d2] => { results := [.lit (.bool true)], args := [d1, d2] }
  | _ => none }
def allocEnoughRow : OpenClaim := { program := "ytppanpboejpmjaa", sum := "1cbad8852e57ce21172e93012f8c9836dd244c7704a121474e74f3408b73af3a", func := "rushlight/rushlightlaw24.AllocEnough", spec := "allocEnough", unfollowed := true, recurses := true, apart := false }
def AllocEnoughSaid : Prop := allocEnoughRow.holds Try.pinned (OpenSpec.ofChange allocEnoughSpec)

/-- ITS FALSE NEIGHBOUR: 'it returns false'. Refute it at one input. -/
def allocEnoughWrong : ChangeSpec := { name := "allocEnough", fn := fun _ => fun
  | [d1, d2] => { results := [.lit (.bool false)], args := [d1, d2] }
  | _ => none }
def AllocEnoughWrongFalsely : Prop := allocEnoughRow.holds Try.pinned (OpenSpec.ofChange allocEnoughWrong)

/- THE SECOND FORM. 'bulk': how many values and letters a reading holds, each counted each time it is reached (what is shared counts as often as it is met; a slice's spare places count too). A statement '..UptoSaid' is the law's where the arguments, and the package variables that the reading takes, are together of bulk at most 1048576: NARROWER than '..Said'. Prove '..Said' where nothing that the law and all that it calls make is longer than what came in: it says more and counts as full. Else prove '..UptoSaid'. A law counts once. -/
mutual
def uptoBulk {H : Type} : DataW H → Nat
  | .lit (.string bytes) => bytes.length + 1
  | .lit _ => 1
  | .nil => 1
  | .ptr d => uptoBulk d + 1
  | .slice elems spare => uptoBulkAll elems + uptoBulkAll spare + 1
  | .agg parts => uptoBulkAll parts + 1
  | .iface _ d => uptoBulk d + 1
  | .map entries => uptoBulkEntries entries + 1
  | .held _ => 1
def uptoBulkAll {H : Type} : List (DataW H) → Nat
  | [] => 0
  | d :: r => uptoBulk d + uptoBulkAll r
def uptoBulkEntries {H : Type} : List (Lit × DataW H) → Nat
  | [] => 0
  | x :: r => uptoBulkEntry x + uptoBulkEntries r
def uptoBulkEntry {H : Type} : Lit × DataW H → Nat
  | (.string bytes, d) => bytes.length + uptoBulk d + 1
  | (_, d) => uptoBulk d + 1
 end
def uptoSmall : (H : Type) → List (DataW H) → Bool := fun _ ds => decide (uptoBulkAll ds ≤ 1048576)
def OpenSpec.upto (s : _root_.Go.ChangeSpec) : _root_.Go.OpenSpec := { _root_.Go.OpenSpec.ofChange s with cond := some uptoSmall }

/-- 'rushlightlaw24.AllocRanges', WHERE WHAT IT READS IS OF BULK AT MOST 1048576: true; the input reads as it did. -/
def allocRangesUptoRow : OpenClaim := { program := "ytppanpboejpmjaa", sum := "1cbad8852e57ce21172e93012f8c9836dd244c7704a121474e74f3408b73af3a", func := "rushlight/rushlightlaw24.AllocRanges", spec := "allocRanges", unfollowed := true, recurses := true, apart := false, narrowed := true }
def AllocRangesUptoSaid : Prop := allocRangesUptoRow.holds Try.pinned (OpenSpec.upto allocRangesSpec)

/-- 'rushlightlaw16.FlowLives', WHERE WHAT IT READS IS OF BULK AT MOST 1048576: true; the input reads as it did. -/
def flowLivesUptoRow : OpenClaim := { program := "ytppanpboejpmjaa", sum := "1cbad8852e57ce21172e93012f8c9836dd244c7704a121474e74f3408b73af3a", func := "rushlight/rushlightlaw16.FlowLives", spec := "flowLives", unfollowed := true, recurses := true, apart := false, narrowed := true }
def FlowLivesUptoSaid : Prop := flowLivesUptoRow.holds Try.pinned (OpenSpec.upto flowLivesSpec)

/-- 'rushlightlaw16.FlowRound', WHERE WHAT IT READS IS OF BULK AT MOST 1048576: true; the input reads as it did. -/
def flowRoundUptoRow : OpenClaim := { program := "ytppanpboejpmjaa", sum := "1cbad8852e57ce21172e93012f8c9836dd244c7704a121474e74f3408b73af3a", func := "rushlight/rushlightlaw16.FlowRound", spec := "flowRound", unfollowed := true, recurses := true, apart := false, narrowed := true }
def FlowRoundUptoSaid : Prop := flowRoundUptoRow.holds Try.pinned (OpenSpec.upto flowRoundSpec)

/-- 'rushlightlaw16.FlowEach', WHERE WHAT IT READS IS OF BULK AT MOST 1048576: true; the input reads as it did. -/
def flowEachUptoRow : OpenClaim := { program := "ytppanpboejpmjaa", sum := "1cbad8852e57ce21172e93012f8c9836dd244c7704a121474e74f3408b73af3a", func := "rushlight/rushlightlaw16.FlowEach", spec := "flowEach", unfollowed := true, recurses := true, apart := false, narrowed := true }
def FlowEachUptoSaid : Prop := flowEachUptoRow.holds Try.pinned (OpenSpec.upto flowEachSpec)

/-- 'rushlightlaw16.FlowLeads', WHERE WHAT IT READS IS OF BULK AT MOST 1048576: true; the input reads as it did. -/
def flowLeadsUptoRow : OpenClaim := { program := "ytppanpboejpmjaa", sum := "1cbad8852e57ce21172e93012f8c9836dd244c7704a121474e74f3408b73af3a", func := "rushlight/rushlightlaw16.FlowLeads", spec := "flowLeads", unfollowed := true, recurses := true, apart := false, narrowed := true }
def FlowLeadsUptoSaid : Prop := flowLeadsUptoRow.holds Try.pinned (OpenSpec.upto flowLeadsSpec)

/-- 'rushlightlaw25.FrameLays', WHERE WHAT IT READS IS OF BULK AT MOST 1048576: true; the input reads as it did. -/
def frameLaysUptoRow : OpenClaim := { program := "ytppanpboejpmjaa", sum := "1cbad8852e57ce21172e93012f8c9836dd244c7704a121474e74f3408b73af3a", func := "rushlight/rushlightlaw25.FrameLays", spec := "frameLays", unfollowed := true, recurses := true, apart := false, narrowed := true }
def FrameLaysUptoSaid : Prop := frameLaysUptoRow.holds Try.pinned (OpenSpec.upto frameLaysSpec)

/-- 'rushlightlaw25.FrameApart', WHERE WHAT IT READS IS OF BULK AT MOST 1048576: true; the input reads as it did. -/
def frameApartUptoRow : OpenClaim := { program := "ytppanpboejpmjaa", sum := "1cbad8852e57ce21172e93012f8c9836dd244c7704a121474e74f3408b73af3a", func := "rushlight/rushlightlaw25.FrameApart", spec := "frameApart", unfollowed := true, recurses := true, apart := false, narrowed := true }
def FrameApartUptoSaid : Prop := frameApartUptoRow.holds Try.pinned (OpenSpec.upto frameApartSpec)

/-- 'rushlightlaw24.AllocApart', WHERE WHAT IT READS IS OF BULK AT MOST 1048576: true; the input reads as it did. -/
def allocApartUptoRow : OpenClaim := { program := "ytppanpboejpmjaa", sum := "1cbad8852e57ce21172e93012f8c9836dd244c7704a121474e74f3408b73af3a", func := "rushlight/rushlightlaw24.AllocApart", spec := "allocApart", unfollowed := true, recurses := true, apart := false, narrowed := true }
def AllocApartUptoSaid : Prop := allocApartUptoRow.holds Try.pinned (OpenSpec.upto allocApartSpec)

/-- 'rushlightlaw24.AllocEnough', WHERE WHAT IT READS IS OF BULK AT MOST 1048576: true; the input reads as it did. -/
def allocEnoughUptoRow : OpenClaim := { program := "ytppanpboejpmjaa", sum := "1cbad8852e57ce21172e93012f8c9836dd244c7704a121474e74f3408b73af3a", func := "rushlight/rushlightlaw24.AllocEnough", spec := "allocEnough", unfollowed := true, recurses := true, apart := false, narrowed := true }
def AllocEnoughUptoSaid : Prop := allocEnoughUptoRow.holds Try.pinned (OpenSpec.upto allocEnoughSpec)

end Rows
end Go.Proofs.Ytppanpboejpmjaa
