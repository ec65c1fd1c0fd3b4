/- How the data of this seat's statements are read, type by type: by program (wip/tools/rowgen.py) out of the types. -/
import Derived.Test.YtppanpboejpmjaaTr0
import Derived.Test.YtppanpboejpmjaaReads
namespace Go.Proofs.Ytppanpboejpmjaa.TrTypes
open Go Go.RowKit Go.Proofs.Ytppanpboejpmjaa.Tr Go.Proofs.Ytppanpboejpmjaa.Reads Go.Proofs.YtppanpboejpmjaaW.PrintWords Go.Proofs.YtppanpboejpmjaaW.PrintLast
/-- What is known of a datum of type 76, whatever it is. -/
def g76 (x : S76) : Prop := (x.f0.size ≤ maxLen) ∧ ((Lit.int .i64 x.f1).wf = true) ∧ ((Lit.int .i64 x.f2).wf = true) ∧ ((Lit.int .i64 x.f3).wf = true)
theorem tells76 : Tells Try.prog 76 k76 g76 :=
  tells_iso (fun x : S76 => (x.f0, x.f1, x.f2, x.f3)) (fun p => ⟨p.1, p.2.1, p.2.2.1, p.2.2.2⟩) (fun _ => rfl) (tells_struct Try.underlying76 (by kernel_rfl) (fields_cons (tells_string Try.underlying9 (by kernel_rfl)) rfl (fields_cons (tells_int Try.underlying3 (by kernel_rfl)) rfl (fields_cons (tells_int Try.underlying3 (by kernel_rfl)) rfl (fields_last (tells_int Try.underlying3 (by kernel_rfl)) rfl)))))
/-- What is known of a datum of type 84, whatever it is. -/
def g84 (x : S84) : Prop := ((Lit.int .i64 x.f0).wf = true) ∧ ((Lit.int .i64 x.f1).wf = true) ∧ ((Lit.int .i64 x.f2).wf = true) ∧ ((Lit.int .i64 x.f3).wf = true) ∧ ((Lit.int .i64 x.f4).wf = true) ∧ ((Lit.int .i64 x.f5).wf = true) ∧ ((Lit.int .i64 x.f6).wf = true) ∧ ((Lit.int .i64 x.f7).wf = true) ∧ ((Lit.int .u32 x.f8).wf = true) ∧ (x.f9.length ≤ maxLen ∧ ∀ y ∈ x.f9, (Lit.int .i64 y).wf = true) ∧ (True)
theorem tells84 : Tells Try.prog 84 k84 g84 :=
  tells_iso (fun x : S84 => (x.f0, x.f1, x.f2, x.f3, x.f4, x.f5, x.f6, x.f7, x.f8, x.f9, x.f10)) (fun p => ⟨p.1, p.2.1, p.2.2.1, p.2.2.2.1, p.2.2.2.2.1, p.2.2.2.2.2.1, p.2.2.2.2.2.2.1, p.2.2.2.2.2.2.2.1, p.2.2.2.2.2.2.2.2.1, p.2.2.2.2.2.2.2.2.2.1, p.2.2.2.2.2.2.2.2.2.2⟩) (fun _ => rfl) (tells_struct Try.underlying84 (by kernel_rfl) (fields_cons (tells_int Try.underlying3 (by kernel_rfl)) rfl (fields_cons (tells_int Try.underlying3 (by kernel_rfl)) rfl (fields_cons (tells_int Try.underlying3 (by kernel_rfl)) rfl (fields_cons (tells_int Try.underlying3 (by kernel_rfl)) rfl (fields_cons (tells_int Try.underlying3 (by kernel_rfl)) rfl (fields_cons (tells_int Try.underlying3 (by kernel_rfl)) rfl (fields_cons (tells_int Try.underlying3 (by kernel_rfl)) rfl (fields_cons (tells_int Try.underlying3 (by kernel_rfl)) rfl (fields_cons (tells_int Try.underlying82 (by kernel_rfl)) rfl (fields_cons (tells_slice Try.underlying46 (by kernel_rfl) (tells_int Try.underlying3 (by kernel_rfl))) rfl (fields_last (tells_bool Try.underlying4 (by kernel_rfl)) rfl))))))))))))
/-- What is known of a datum of type 45, whatever it is. -/
def g45 (x : S45) : Prop := (x.f0.length ≤ maxLen ∧ ∀ y ∈ x.f0, g84 y) ∧ ((Lit.int .i64 x.f1).wf = true) ∧ ((Lit.int .i64 x.f2).wf = true) ∧ ((Lit.int .i64 x.f3).wf = true) ∧ ((Lit.int .i64 x.f4).wf = true)
theorem tells45 : Tells Try.prog 45 k45 g45 :=
  tells_iso (fun x : S45 => (x.f0, x.f1, x.f2, x.f3, x.f4)) (fun p => ⟨p.1, p.2.1, p.2.2.1, p.2.2.2.1, p.2.2.2.2⟩) (fun _ => rfl) (tells_struct Try.underlying45 (by kernel_rfl) (fields_cons (tells_slice Try.underlying43 (by kernel_rfl) tells84) rfl (fields_cons (tells_int Try.underlying3 (by kernel_rfl)) rfl (fields_cons (tells_int Try.underlying3 (by kernel_rfl)) rfl (fields_cons (tells_int Try.underlying3 (by kernel_rfl)) rfl (fields_last (tells_int Try.underlying3 (by kernel_rfl)) rfl))))))
/-- What is known of a datum of type 31, whatever it is. -/
def g31 (x : S31) : Prop := (x.f0.size ≤ maxLen) ∧ (True) ∧ ((Lit.int .i64 x.f2).wf = true) ∧ ((Lit.int .i64 x.f3).wf = true) ∧ (x.f4.length ≤ maxLen ∧ ∀ y ∈ x.f4, g76 y) ∧ (x.f5.length ≤ maxLen ∧ ∀ y ∈ x.f5, g45 y)
theorem tells31 : Tells Try.prog 31 k31 g31 :=
  tells_iso (fun x : S31 => (x.f0, x.f1, x.f2, x.f3, x.f4, x.f5)) (fun p => ⟨p.1, p.2.1, p.2.2.1, p.2.2.2.1, p.2.2.2.2.1, p.2.2.2.2.2⟩) (fun _ => rfl) (tells_struct Try.underlying31 (by kernel_rfl) (fields_cons (tells_string Try.underlying9 (by kernel_rfl)) rfl (fields_cons (tells_bool Try.underlying4 (by kernel_rfl)) rfl (fields_cons (tells_int Try.underlying3 (by kernel_rfl)) rfl (fields_cons (tells_int Try.underlying3 (by kernel_rfl)) rfl (fields_cons (tells_slice Try.underlying22 (by kernel_rfl) tells76) rfl (fields_last (tells_slice Try.underlying29 (by kernel_rfl) tells45) rfl)))))))
/-- What is known of a datum of type 26, whatever it is. -/
def g26 (x : S26) : Prop := (x.f0.length ≤ maxLen ∧ ∀ y ∈ x.f0, g76 y) ∧ (x.f1.length ≤ maxLen ∧ ∀ y ∈ x.f1, y.length ≤ maxLen ∧ ∀ y' ∈ y, (Lit.int .u8 y').wf = true) ∧ (x.f2.length ≤ maxLen ∧ ∀ y ∈ x.f2, g31 y) ∧ ((Lit.int .i64 x.f3).wf = true)
theorem tells26 : Tells Try.prog 26 k26 g26 :=
  tells_iso (fun x : S26 => (x.f0, x.f1, x.f2, x.f3)) (fun p => ⟨p.1, p.2.1, p.2.2.1, p.2.2.2⟩) (fun _ => rfl) (tells_struct Try.underlying26 (by kernel_rfl) (fields_cons (tells_slice Try.underlying22 (by kernel_rfl) tells76) rfl (fields_cons (tells_slice Try.underlying23 (by kernel_rfl) (tells_slice Try.underlying143 (by kernel_rfl) (tells_int Try.underlying5 (by kernel_rfl)))) rfl (fields_cons (tells_slice Try.underlying24 (by kernel_rfl) tells31) rfl (fields_last (tells_int Try.underlying3 (by kernel_rfl)) rfl)))))
/-- What is known of a datum of type 80, whatever it is. -/
def g80 (x : S80) : Prop := ((Lit.int .i64 x.f0).wf = true) ∧ ((Lit.int .i64 x.f1).wf = true)
theorem tells80 : Tells Try.prog 80 k80 g80 :=
  tells_iso (fun x : S80 => (x.f0, x.f1)) (fun p => ⟨p.1, p.2⟩) (fun _ => rfl) (tells_struct Try.underlying80 (by kernel_rfl) (fields_cons (tells_int Try.underlying3 (by kernel_rfl)) rfl (fields_last (tells_int Try.underlying3 (by kernel_rfl)) rfl)))
end Go.Proofs.Ytppanpboejpmjaa.TrTypes
