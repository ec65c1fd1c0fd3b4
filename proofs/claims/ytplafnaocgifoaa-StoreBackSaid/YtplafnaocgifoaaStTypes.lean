/- How the data of this seat's statements are read, type by type: by program (wip/tools/rowgen.py) out of the types. -/
import Derived.Test.YtplafnaocgifoaaSt0
import Derived.Test.YtplafnaocgifoaaReads
namespace Go.Proofs.Ytplafnaocgifoaa.StTypes
open Go Go.RowKit Go.Proofs.Ytplafnaocgifoaa.St Go.Proofs.Ytplafnaocgifoaa.Reads Go.Proofs.YtplafnaocgifoaaW.PrintWords Go.Proofs.YtplafnaocgifoaaW.PrintLast
/-- What is known of a datum of type 24, whatever it is. -/
def g24 (x : S24) : Prop := ((Lit.int .i64 x.f0).wf = true) ∧ ((Lit.int .i64 x.f1).wf = true) ∧ ((Lit.int .i64 x.f2).wf = true) ∧ ((Lit.int .i64 x.f3).wf = true)
theorem tells24 : Tells Try.prog 24 k24 g24 :=
  tells_iso (fun x : S24 => (x.f0, x.f1, x.f2, x.f3)) (fun p => ⟨p.1, p.2.1, p.2.2.1, p.2.2.2⟩) (fun _ => rfl) (tells_struct Try.underlying24 (by kernel_rfl) (fields_cons (tells_int Try.underlying3 (by kernel_rfl)) rfl (fields_cons (tells_int Try.underlying3 (by kernel_rfl)) rfl (fields_cons (tells_int Try.underlying3 (by kernel_rfl)) rfl (fields_last (tells_int Try.underlying3 (by kernel_rfl)) rfl)))))
/-- What is known of a datum of type 26, whatever it is. -/
def g26 (x : S26) : Prop := ((Lit.int .u32 x.f0).wf = true) ∧ (g24 x.f1) ∧ (True)
theorem tells26 : Tells Try.prog 26 k26 g26 :=
  tells_iso (fun x : S26 => (x.f0, x.f1, x.f2)) (fun p => ⟨p.1, p.2.1, p.2.2⟩) (fun _ => rfl) (tells_struct Try.underlying26 (by kernel_rfl) (fields_cons (tells_int Try.underlying22 (by kernel_rfl)) rfl (fields_cons tells24 rfl (fields_last (tells_bool Try.underlying4 (by kernel_rfl)) rfl))))
/-- What is known of a datum of type 28, whatever it is. -/
def g28 (x : S28) : Prop := ((Lit.int .i64 x.f0).wf = true) ∧ ((Lit.int .i64 x.f1).wf = true) ∧ (g26 x.f2) ∧ (g26 x.f3)
theorem tells28 : Tells Try.prog 28 k28 g28 :=
  tells_iso (fun x : S28 => (x.f0, x.f1, x.f2, x.f3)) (fun p => ⟨p.1, p.2.1, p.2.2.1, p.2.2.2⟩) (fun _ => rfl) (tells_struct Try.underlying28 (by kernel_rfl) (fields_cons (tells_int Try.underlying3 (by kernel_rfl)) rfl (fields_cons (tells_int Try.underlying3 (by kernel_rfl)) rfl (fields_cons tells26 rfl (fields_last tells26 rfl)))))
/-- What is known of a datum of type 46, whatever it is. -/
def g46 (x : S46) : Prop := ((Lit.int .i64 x.f0).wf = true) ∧ ((Lit.int .i64 x.f1).wf = true) ∧ ((Lit.int .i64 x.f2).wf = true) ∧ ((Lit.int .i64 x.f3).wf = true) ∧ (True) ∧ (x.f5.length ≤ maxLen ∧ ∀ y ∈ x.f5, (Lit.int .u8 y).wf = true) ∧ (g24 x.f6) ∧ (g26 x.f7)
theorem tells46 : Tells Try.prog 46 k46 g46 :=
  tells_iso (fun x : S46 => (x.f0, x.f1, x.f2, x.f3, x.f4, x.f5, x.f6, x.f7)) (fun p => ⟨p.1, p.2.1, p.2.2.1, p.2.2.2.1, p.2.2.2.2.1, p.2.2.2.2.2.1, p.2.2.2.2.2.2.1, p.2.2.2.2.2.2.2⟩) (fun _ => rfl) (tells_struct Try.underlying46 (by kernel_rfl) (fields_cons (tells_int Try.underlying3 (by kernel_rfl)) rfl (fields_cons (tells_int Try.underlying3 (by kernel_rfl)) rfl (fields_cons (tells_int Try.underlying3 (by kernel_rfl)) rfl (fields_cons (tells_int Try.underlying3 (by kernel_rfl)) rfl (fields_cons (tells_bool Try.underlying4 (by kernel_rfl)) rfl (fields_cons (tells_slice Try.underlying41 (by kernel_rfl) (tells_int Try.underlying5 (by kernel_rfl))) rfl (fields_cons tells24 rfl (fields_last tells26 rfl)))))))))
end Go.Proofs.Ytplafnaocgifoaa.StTypes
