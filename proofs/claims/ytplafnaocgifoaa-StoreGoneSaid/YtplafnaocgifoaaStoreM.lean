/- StoreM: functions of the program walked by hand, and what they come to. -/
import Derived.Test.YtplafnaocgifoaaProg
import Derived.Below
import Derived.Deep.Draws
import Derived.Deep.AppendLies
import Derived.Maps.AppendAt
import Derived.OwnWalk
import Derived.Laws.BytesArg
import Derived.Laws.MakeOwn
import Derived.Laws.OwnMore
import Derived.Deep.OwnRows
import Derived.Tactics
import Derived.Lib.ConvBytes
import Derived.Laws.Slices
import Derived.WalkKit
import Derived.KernelRfl
import Derived.RowKit3
import Derived.Deep.LoopGhost
import Derived.Deep.QuietTactic
import Derived.BigQuiet
import Derived.WideLaws
import Derived.Deep.DeepCutAuto
import Derived.Deep.CutBlock
import Derived.Deep.RegionHeld3
import Derived.Laws.Rows
import Derived.Lib.AppendStr
import Derived.ArgAppend
import Derived.Laws.IdiomCopy
import Derived.OrdersHeld
import Derived.Laws.BitsLemmas
import Derived.RowKit
import Derived.Test.YtplafnaocgifoaaWWords
import Derived.Test.YtplafnaocgifoaaWLast
import Derived.Test.YtplafnaocgifoaaWTab
import Derived.Test.YtplafnaocgifoaaWFour
import Derived.Test.YtplafnaocgifoaaWQPut
import Derived.Test.YtplafnaocgifoaaWApart
import Derived.Test.YtplafnaocgifoaaWArr
import Derived.Test.YtplafnaocgifoaaWZeros
import Derived.Test.YtplafnaocgifoaaWFoot
import Derived.Test.YtplafnaocgifoaaWKept
import Derived.Test.YtplafnaocgifoaaWShare
import Derived.Test.YtplafnaocgifoaaWN
import Derived.Test.YtplafnaocgifoaaWFootNe
import Derived.Test.YtplafnaocgifoaaWAt
import Derived.Test.YtplafnaocgifoaaWEqStruct
import Derived.Test.YtplafnaocgifoaaWRepsOne
import Derived.Test.YtplafnaocgifoaaWInv
import Derived.Test.YtplafnaocgifoaaWInvWords
import Derived.Test.YtplafnaocgifoaaWGuard
import Derived.Test.YtplafnaocgifoaaWNEv
import Derived.Test.YtplafnaocgifoaaWMore
import Derived.Test.YtplafnaocgifoaaSt0
import Derived.Test.YtplafnaocgifoaaStoreK
import Derived.Test.YtplafnaocgifoaaStoreH
import Derived.Outline
set_option linter.all false
namespace Go.Proofs.Ytplafnaocgifoaa.St
open Go.RowKit Go.Proofs.YtplafnaocgifoaaW.PrintWords Go.Proofs.YtplafnaocgifoaaW.PrintLast Go.Proofs.YtplafnaocgifoaaW.PrintMore
set_option linter.unusedVariables false
set_option maxHeartbeats 8000000 in
set_option maxRecDepth 100000 in
theorem store_object.one (w : World) (sb lb cap : Nat) (cs : Array Value) (hs : w.heap[sb]? = some (.cells #[.slice (some ⟨lb, 0, none⟩) 1 cap] 53 (0, 0))) (hl : w.heap[lb]? = some (.cells cs 59 (0, 0))) (hg : cs[3]? = some (.bool false)) :
    Calls Try.prog 21 #[.pointer (some ⟨sb, 0, none⟩), .int .i64 1] w fun e w' => e = .returned (.tuple #[.pointer (some ⟨lb, 0, none⟩), .int .i64 0]) ∧ w' = w := by
  have hu53 := Try.underlying53
  have hu51 := Try.underlying51
  have hu59 := Try.underlying59
  have f0 : w.cell? ⟨sb, 0, none⟩ = some (.slice (some ⟨lb, 0, none⟩) 1 cap) := (blk_cell hs 0).trans rfl
  have f3 : w.cell? ⟨lb, 3, none⟩ = some (.bool false) := (blk_cell hl 3).trans hg
  clear hs hl hg
  go_enter Try.func21, Try.ntmps21
  go_wp2
  refine bodyPost_ret (v := .tuple #[.pointer (some ⟨lb, 0, none⟩), .int .i64 0]) (by simp [results, Try.results21, go_sem]) rfl ?_
  exact ⟨rfl, rfl⟩
theorem store_object_ob (w0 w : World) (sb lb cap db tb n m : Nat) (mp : Option Nat) (g : Int → S24) (data : List Int) (set : List Bool) (h : store_Ob w0 w sb lb cap db tb n mp m g data set) :
    Calls Try.prog 21 #[.pointer (some ⟨sb, 0, none⟩), .int .i64 1] w fun e w' => e = .returned (.tuple #[.pointer (some ⟨lb, 0, none⟩), .int .i64 0]) ∧ w' = w := by
  obtain ⟨cs, l1, l2, l3, l4, l5⟩ := h.l
  exact store_object.one w sb lb cap cs h.s l1 l5
theorem store_within.part {n at_ size : Int} (h1 : 1 ≤ size) (h2 : 0 ≤ at_) (h3 : at_ + size ≤ n) (h5 : n ≤ 1000000) : store_within.f 1 0 n 0 at_ size = some true := by
  have w1 : wrap64 (n - 0) = n := by unfold wrap64; omega
  have w2 : wrap64 (n - at_) = n - at_ := by unfold wrap64; omega
  unfold store_within.f
  rw [if_pos (by omega), if_pos (by omega), if_pos (by omega), w1, if_pos (by omega), w2, decide_eq_true (by omega)]
set_option maxHeartbeats 8000000 in
set_option maxRecDepth 100000 in
theorem store_Part.one (w : World) (sb lb cap : Nat) (cs : Array Value) (n at_ size : Int)
    (hs : w.heap[sb]? = some (.cells #[.slice (some ⟨lb, 0, none⟩) 1 cap] 53 (0, 0))) (hl : w.heap[lb]? = some (.cells cs 59 (0, 0))) (hg : cs[3]? = some (.bool false))
    (h1 : 1 ≤ size) (h2 : 0 ≤ at_) (h3 : at_ + size ≤ n) (h5 : n ≤ 1000000) :
    Calls Try.prog 13 #[.pointer (some ⟨sb, 0, none⟩), .agg #[.int .i64 1, .int .i64 0, .int .i64 n, .int .i64 0], .int .i64 at_, .int .i64 size] w fun e w' => e = .returned (.tuple #[.agg #[.int .i64 1, .int .i64 at_, .int .i64 (at_ + size), .int .i64 at_], .int .i64 0]) ∧ Below w.heap.size w w' := by
  have n0 := blk_lt hs
  have n1 := blk_lt hl
  have hu24 := Try.underlying24
  have HS := Aside0.mk hs
  have HL := Aside0.mk hl
  have HG := Aside0.mk hg
  have HWI := Aside0.mk (store_within.part h1 h2 h3 h5)
  have s1 : IntKind.i64.wrap (0 + at_) = at_ := (IntWalk.i64_in _ (by omega)).trans (by omega)
  have s1' : IntKind.i64.wrap at_ = at_ := (IntWalk.i64_in _ (by omega)).trans (by omega)
  have s2 : IntKind.i64.wrap (at_ + size) = at_ + size := IntWalk.i64_in _ (by omega)
  clear hs hl hg h1 h2 h3 h5
  go_enter Try.func13, Try.ntmps13
  go_wp2_with (first | (go_at_call 18; (with_reducible refine (store_fit.one _ sb lb cap cs 0 n 0 ?a1 ?a2 ?a3).mono ?_); (case a1 => exact blk_alloc (blk_alloc HS.out _) _); (case a2 => exact blk_alloc (blk_alloc HL.out _) _); (case a3 => exact HG.out); rintro e w1 ⟨rfl, hb⟩; have HP := Aside0.mk (blk_below (blk_alloc (blk_new w _) _) hb); have HR := Aside0.mk (blk_below (store_second w _ _) hb); have g0 : w1.cell? ⟨w.heap.size, 0, none⟩ = some (.int .i64 1) := (blk_cell HP.out 0).trans rfl; have g1 : w1.cell? ⟨w.heap.size, 1, none⟩ = some (.int .i64 0) := (blk_cell HP.out 1).trans rfl; have g2 : w1.cell? ⟨w.heap.size, 2, none⟩ = some (.int .i64 n) := (blk_cell HP.out 2).trans rfl; have g3 : w1.cell? ⟨w.heap.size, 3, none⟩ = some (.int .i64 0) := (blk_cell HP.out 3).trans rfl; have HB := Aside0.mk (below_step (by repeat (first | exact Below.refl _ _ | apply below_alloc)) hb : Below w.heap.size w w1); clear hb) | (go_at_call 22; (with_reducible refine (store_within.calls 1 0 n 0 at_ size true _ HWI.out).mono ?_); rintro e w2 ⟨rfl, hb2⟩; have HP2 := Aside0.mk (blk_below HP.out hb2); have HR2 := Aside0.mk (blk_below HR.out hb2); have k0 : w2.cell? ⟨w.heap.size, 0, none⟩ = some (.int .i64 1) := (blk_cell HP2.out 0).trans rfl; have k3 : w2.cell? ⟨w.heap.size, 3, none⟩ = some (.int .i64 0) := (blk_cell HP2.out 3).trans rfl; have r0 : w2.cell? ⟨w.heap.size + 1, 0, none⟩ = some (.int .i64 0) := (blk_cell HR2.out 0).trans rfl; have y0 := blk_frozen HR2.out 0; have r1 : w2.cell? ⟨w.heap.size + 1, 1, none⟩ = some (.int .i64 0) := (blk_cell HR2.out 1).trans rfl; have y1 := blk_frozen HR2.out 1; have r2 : w2.cell? ⟨w.heap.size + 1, 2, none⟩ = some (.int .i64 0) := (blk_cell HR2.out 2).trans rfl; have y2 := blk_frozen HR2.out 2; have r3 : w2.cell? ⟨w.heap.size + 1, 3, none⟩ = some (.int .i64 0) := (blk_cell HR2.out 3).trans rfl; have y3 := blk_frozen HR2.out 3; have HB2 := Aside0.mk (below_step HB.out hb2 : Below w.heap.size w w2); clear hb2))
  refine bodyPost_ret (results_ct rfl _ _ (w.heap.size + 1) 24 #[.int .i64 1, .int .i64 at_, .int .i64 (at_ + size), .int .i64 at_] (0, 0) _ rfl (blk_put (blk_put (blk_put (blk_put HR2.out 0 _ rfl) 1 _ rfl) 2 _ rfl) 3 _ rfl) Try.underlying24 rfl (by kernel_rfl)) rfl ?_
  exact ⟨rfl, by repeat (first | exact HB2.out | (refine below_set ?_ (by omega)))⟩
/-- the bytes 0 to i - 1 set, those behind not -/
def store_upto (n i : Nat) : List Bool := (List.range n).map fun j => decide (j < i)
theorem store_upto_zero (n : Nat) : store_upto n 0 = List.replicate n false := by
  apply List.ext_getElem <;> simp [store_upto]
theorem store_upto_all (n : Nat) : store_upto n n = List.replicate n true := by
  apply List.ext_getElem <;> simp [store_upto]
theorem store_upto_set (n i : Nat) : (store_upto n i).set i true = store_upto n (i + 1) := by
  apply List.ext_getElem
  · simp [store_upto]
  · intro j h1 h2
    simp only [store_upto, List.length_map, List.length_range, List.length_set] at h1 h2
    rw [List.getElem_set]
    simp only [store_upto, List.getElem_map, List.getElem_range]
    by_cases e : i = j
    · subst e; simp
    · rw [if_neg e]
      by_cases e2 : j < i
      · rw [decide_eq_true e2, decide_eq_true (by omega)]
      · rw [decide_eq_false e2, decide_eq_false (by omega)]
theorem store_upto_at (n i j : Nat) (h : j < n) : (store_upto n i)[j]? = some (decide (j < i)) := by
  simp [store_upto, h]
theorem store_zeros_set (n i : Nat) : (List.replicate n (0 : Int)).set i 0 = List.replicate n 0 := by
  apply List.ext_getElem
  · simp
  · intro j h1 h2; rw [List.getElem_set]; simp
set_option maxHeartbeats 8000000 in
set_option maxRecDepth 100000 in
theorem store_Fill_ob (w0 w : World) (sb lb cap db tb n m fb : Nat) (g : Int → S24) (h : store_Ob w0 w sb lb cap db tb n none m g (List.replicate n 0) (List.replicate n false)) (hf : w.heap[fb]? = some (.cells (nums .u8 (List.replicate n 0)).toArray 5 (0, 0))) (hfd : fb ≠ db) (hn : n ≤ 300) :
    Calls Try.prog 12 #[.pointer (some ⟨sb, 0, none⟩), .int .i64 1, .slice (some ⟨fb, 0, none⟩) n n] w fun e w' => e = .returned (.int .i64 0) ∧ store_Ob w0 w' sb lb cap db tb n none m g (List.replicate n 0) (List.replicate n true) ∧ store_Kept w w' ∧ w.heap.size ≤ w'.heap.size := by
  have hu53 := Try.underlying53
  have hu51 := Try.underlying51
  have hu59 := Try.underlying59
  have hu56 := Try.underlying56
  have hu41 := Try.underlying41
  have hu54 := Try.underlying54
  have H := Aside0.mk h
  have HF := Aside0.mk hf
  obtain ⟨cs, l1, l2, l3, l4, l5⟩ := h.l
  have f0 : w.cell? ⟨lb, 0, none⟩ = some (.slice (some ⟨db, 0, none⟩) n n) := (blk_cell l1 0).trans l2
  clear l1 l2 l3 l4 l5 h hf
  go_enter Try.func12, Try.ntmps12
  go_wp2_with (go_at_call 21; (with_reducible refine (store_object_ob w0 _ sb lb cap db tb n m none g _ _ H.out).mono ?_); rintro e w1 ⟨rfl, rfl⟩)
  go_loopg [33] n (fun kq v33 w' => ∃ i : Nat, v33 = .int .i64 i ∧ Aside0 (kq + i = n) ∧ i ≤ n ∧ Aside0 (store_Ob w0 w' sb lb cap db tb n none m g (List.replicate n 0) (store_upto n i)) ∧ Aside0 (w'.heap[fb]? = some (.cells (nums .u8 (List.replicate n 0)).toArray 5 (0, 0))) ∧ Aside0 (store_Kept w1 w') ∧ Aside0 (w1.heap.size ≤ w'.heap.size))
  case atStart => exact ⟨0, rfl, ⟨rfl⟩, by omega, ⟨by rw [store_upto_zero]; exact H.out⟩, HF, ⟨fun _ _ _ a _ _ _ => a⟩, ⟨Nat.le_refl _⟩⟩
  case round =>
    obtain ⟨i, rfl, HK, hi, HO, HFr, KPr, SZr⟩ := hrel
    by_cases hlt : i < n
    · have q1 : (0 : Int) ≤ (i : Int) := Int.natCast_nonneg _
      have q2 : (i : Int) < (n : Int) := by omega
      have fv : wr.cell? ⟨fb, i, none⟩ = some (.int .u8 0) := (blk_cell HFr.out _).trans (by simp [nums, hlt])
      obtain ⟨cs, l1, l2, l3, l4, l5⟩ := HO.out.l
      have HL := Aside0.mk l1
      have HL4 := Aside0.mk l4
      have f0 : wr.cell? ⟨lb, 0, none⟩ = some (.slice (some ⟨db, 0, none⟩) n n) := (blk_cell l1 0).trans l2
      have f1 : wr.cell? ⟨lb, 1, none⟩ = some (.slice (some ⟨tb, 0, none⟩) n n) := (blk_cell l1 1).trans l3
      clear l1 l2 l3 l4 l5
      have x1 : db ≠ lb := blk_ne HO.out.d HL.out (by decide)
      have x2 : tb ≠ lb := blk_ne HO.out.t HL.out (by decide)
      have x3 : db ≠ tb := blk_ne HO.out.d HO.out.t (by decide)
      have ft : wr.cell? ⟨tb, i, none⟩ = some (.bool (decide (i < i))) := (blk_cell HO.out.t _).trans (by simp [bools, store_upto_at n i i hlt])
      have fd : wr.cell? ⟨db, i, none⟩ = some (.int .u8 0) := (blk_cell HO.out.d _).trans (by simp [nums, hlt])
      have zt := blk_frozen HO.out.t i
      have zd := blk_frozen HO.out.d i
      have s3 : IntKind.i64.wrap ((i : Int) + 1) = ((i + 1 : Nat) : Int) := (IntWalk.i64_in _ (by omega)).trans (by omega)
      have hi6 : i ≤ 1000000 := by omega
      go_upto_region 10 with (go_at_call 20; (with_reducible refine (store_forget1_none wr lb i cs HL.out HL4.out hi6).mono ?_); rintro e w2 ⟨rfl, rfl⟩)
      go_big_region
      go_wp2
      go_roundg (gk - 1)
      case measure => have := HK.out; omega
      case rel =>
        have HO2 := HO.out.putD i 0
        rw [store_zeros_set] at HO2
        have HO3 := HO2.putT i true
        rw [store_upto_set] at HO3
        refine ⟨i + 1, by go_num, ⟨by have := HK.out; omega⟩, by omega, ⟨HO3.drew⟩, ⟨?_⟩, ⟨?_⟩, ⟨?_⟩⟩
        · exact blk_far (blk_far HFr.out (p := ⟨db, i, none⟩) hfd _) (p := ⟨tb, i, none⟩) (blk_ne HFr.out HO.out.t (by decide)) _
        · exact (KPr.out.trans (store_Kept.set HO.out.d (.inr (.inl rfl)) _)).trans (store_Kept.set HO2.t (.inr (.inr rfl)) _)
        · simpa [World.setCell] using SZr.out
    · have hi4 : i = n := by omega
      subst hi4
      go_wp2
      go_ret
      exact ⟨rfl, by have := HO.out; rw [store_upto_all] at this; exact this, KPr.out, SZr.out⟩
end Go.Proofs.Ytplafnaocgifoaa.St
