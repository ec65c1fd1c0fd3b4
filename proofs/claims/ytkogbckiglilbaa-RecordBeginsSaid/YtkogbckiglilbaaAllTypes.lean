/- How the data of this seat's statements are read, type by type: by program (wip/tools/rowgen.py) out of the types. -/
import Derived.Test.YtkogbckiglilbaaAll0
import Derived.Test.YtkogbckiglilbaaReads
namespace Go.Proofs.Ytkogbckiglilbaa.AllTypes
open Go Go.RowKit Go.Proofs.Ytkogbckiglilbaa.All Go.Proofs.Ytkogbckiglilbaa.Reads Go.Proofs.YtkogbckiglilbaaW.PrintWords Go.Proofs.YtkogbckiglilbaaW.PrintLast
/-- What is known of a datum of type 38, whatever it is. -/
def g38 (x : S38) : Prop := ((Lit.int .u32 x.f0).wf = true) ∧ ((Lit.int .u32 x.f1).wf = true)
theorem tells38 : Tells Try.prog 38 k38 g38 :=
  tells_iso (fun x : S38 => (x.f0, x.f1)) (fun p => ⟨p.1, p.2⟩) (fun _ => rfl) (tells_struct Try.underlying38 (by kernel_rfl) (fields_cons (tells_int Try.underlying33 (by kernel_rfl)) rfl (fields_last (tells_int Try.underlying33 (by kernel_rfl)) rfl)))
/-- What is known of a datum of type 40, whatever it is. -/
def g40 (x : S40) : Prop := (x.f0.length ≤ maxLen ∧ ∀ y ∈ x.f0, g38 y) ∧ ((Lit.int .i64 x.f1).wf = true) ∧ ((Lit.int .i64 x.f2).wf = true) ∧ ((Lit.int .u32 x.f3).wf = true)
theorem tells40 : Tells Try.prog 40 k40 g40 :=
  tells_iso (fun x : S40 => (x.f0, x.f1, x.f2, x.f3)) (fun p => ⟨p.1, p.2.1, p.2.2.1, p.2.2.2⟩) (fun _ => rfl) (tells_struct Try.underlying40 (by kernel_rfl) (fields_cons (tells_slice Try.underlying22 (by kernel_rfl) tells38) rfl (fields_cons (tells_int Try.underlying3 (by kernel_rfl)) rfl (fields_cons (tells_int Try.underlying3 (by kernel_rfl)) rfl (fields_last (tells_int Try.underlying33 (by kernel_rfl)) rfl)))))
end Go.Proofs.Ytkogbckiglilbaa.AllTypes
