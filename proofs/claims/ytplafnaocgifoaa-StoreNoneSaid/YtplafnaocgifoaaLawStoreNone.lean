/- The law StoreNone: a nil memory tells nothing and does nothing; the law's own walk over the walked methods, for every input. -/
import Derived.Test.YtplafnaocgifoaaRows
import Derived.Test.YtplafnaocgifoaaStoreO
import Derived.Test.YtplafnaocgifoaaStTypes
import Derived.WalkKit
import Derived.ProofKit
import Derived.OpenShut
import Derived.ShutString
import Derived.ChangeOld
import Derived.Below
import Derived.SizedLaws
set_option linter.all false
namespace Go.Proofs.Ytplafnaocgifoaa.storeNone
open Go.ChangeShapes Go.WideShapes Go.ChangeAt Go.RowKit Go.Proofs.Ytplafnaocgifoaa.St Go.Proofs.Ytplafnaocgifoaa.StTypes Go.Proofs.Ytplafnaocgifoaa.Reads Go.Proofs.YtplafnaocgifoaaW.PrintWords Go.Proofs.YtplafnaocgifoaaW.PrintLast
open Go.ChangeMaps (open_string shut_string)
theorem own : ownKnob Try.prog.godebug = none := by kernel_rfl
theorem laidOut : laidOutB Try.prog = true := by kernel_rfl
set_option maxRecDepth 100000 in
theorem lifted (os : Os) (started : os.Started) (H : Type) (enc : TypeId × Value → H) :
    ReturnsInHanded {} Try.checked os 5 .any (Rows.storeNoneSpec.pre6 enc Try.prog Try.f5 Rows.storeNoneRow.domain false) (Rows.storeNoneSpec.post enc Try.prog Try.f5 false true false false) := by
  refine returnsInHanded_of_change_sized (C := Try.checked) own started (by kernel_rfl) Try.func5
    (ChangeSpec.witness6 (enc := enc) (C := Try.checked) false ⟨#[], #[.agg #[.int .i64 0, .int .i64 0, .int .i64 0, .int .i64 0, .bool false, .slice none 0 0, .int .i64 0, .int .i64 0, .int .i64 0, .int .i64 0, .int .u32 0, .int .i64 0, .int .i64 0, .int .i64 0, .int .i64 0, .bool false]], []⟩ 5 (by kernel_rfl) (by kernel_rfl) (by kernel_rfl) (by kernel_rfl)) ?_
  intro W base args ds gs before hval0 hW hcnd hsz0 _
  have hval : ∀ (j : Nat) t v, Try.f5.params[j]? = some t → args[j]? = some v → Value.okWide Try.prog W .any base t v := hval0
  have hW' := hW
  obtain ⟨p, q, hA0, hV, rfl, hfz, hnd⟩ := hW
  have hA : DataW.TrodAll enc Try.prog W 0 (fun _ => true) true Try.f5.params.toList args.toList ds p := hA0
  rw [Try.params5] at hA hval
  obtain ⟨v0, vs0, d0, ds0, p0, q0, hargs, rfl, rfl, h0, r0⟩ := trodAll_cons hA
  obtain ⟨rfl, rfl, rfl⟩ := trodAll_nil r0
  obtain rfl : args = #[v0] := by cases args; simp_all
  obtain ⟨rfl, rfl⟩ := trodVars_none hV
  have k0 := h0
  have lt0 : ∀ x ∈ p0, x.block < W.heap.size := by obtain ⟨m, hm⟩ := k0; exact DataW.trod_lt m _ _ _ hm
  obtain ⟨cs0, rfl, _⟩ := okWide_struct Try.underlying46 (hval 0 46 v0 rfl rfl)
  obtain ⟨x0, K0, G0⟩ : ∃ x, Kd.K k46 W x (Value.agg cs0).cells.toList ∧ g46 x := by obtain ⟨m, hm⟩ := h0; exact tells46.tells m hm
  obtain ⟨A5, c5, e0, _⟩ := k46_open K0
  obtain rfl : cs0 = #[.int .i64 x0.f0, .int .i64 x0.f1, .int .i64 x0.f2, .int .i64 x0.f3, .bool x0.f4, .slice A5 x0.f5.length c5, .int .i64 x0.f6.f0, .int .i64 x0.f6.f1, .int .i64 x0.f6.f2, .int .i64 x0.f6.f3, .int .u32 x0.f7.f0, .int .i64 x0.f7.f1.f0, .int .i64 x0.f7.f1.f1, .int .i64 x0.f7.f1.f2, .int .i64 x0.f7.f1.f3, .bool x0.f7.f2] := by cases cs0; simpa [Value.cells] using e0
  clear hA0 hval0 hsz0
  refine (law11_StoreNone W x0.f0 x0.f1 x0.f2 x0.f3 x0.f4 A5 x0.f5.length c5 x0.f6.f0 x0.f6.f1 x0.f6.f2 x0.f6.f3 x0.f7.f0 x0.f7.f1.f0 x0.f7.f1.f1 x0.f7.f1.f2 x0.f7.f1.f3 x0.f7.f2).mono fun e W' ⟨he, bel0⟩ => ?_
  have bel : Below W.heap.size W W' := bel0
  subst he
  exact ⟨_, rfl, _, _, _, [], _, [], hW', trodAll_mk1 (shut_bool Try.underlying4 _), (trodAll_cons_mk (Below.trod laidOut (by kernel_rfl) (of_decide_eq_true (by kernel_rfl)) k0 bel lt0) trodAll_mk0), rfl, bel.frame _, fun h => by cases h⟩
theorem over : Rows.storeNoneRow.holds Try.pinned (OpenSpec.ofChange Rows.storeNoneSpec) :=
  OpenClaim.holds_of_wide 5 Try.f5 rfl rfl rfl rfl rfl rfl rfl ⟨rfl, rfl, rfl, rfl, rfl⟩ rfl rfl rfl rfl rfl (by kernel_rfl) Try.func5 (by kernel_rfl)
    (of_decide_eq_true (by kernel_rfl)) (by unfold Func.isWrapper; first | (rw [if_pos (by decide +kernel)]; kernel_rfl) | (rw [if_neg (by decide +kernel)]; exact ⟨rfl, rfl⟩))
    (fun os started H enc _ => lifted os started H enc)
theorem proved : Rows.StoreNoneSaid := over
#print axioms proved
end Go.Proofs.Ytplafnaocgifoaa.storeNone
namespace Go.Proofs.Ytplafnaocgifoaa
/-- The row, under a short name, for the claim. -/
theorem storeNone_holds : Rows.StoreNoneSaid := storeNone.proved
end Go.Proofs.Ytplafnaocgifoaa
