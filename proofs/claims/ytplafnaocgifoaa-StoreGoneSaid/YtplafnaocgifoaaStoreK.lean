/- StoreK: functions of the program walked by hand, and what they come to. -/
import Derived.Test.YtplafnaocgifoaaProg
import Derived.Below
import Derived.Deep.Draws
import Derived.Deep.AppendLies
import Derived.Maps.AppendAt
import Derived.OwnWalk
import Derived.Laws.BytesArg
import Derived.Laws.MakeOwn
import Derived.Laws.OwnMore
import Derived.Deep.OwnRows
import Derived.Tactics
import Derived.Lib.ConvBytes
import Derived.Laws.Slices
import Derived.WalkKit
import Derived.KernelRfl
import Derived.RowKit3
import Derived.Deep.LoopGhost
import Derived.Deep.QuietTactic
import Derived.BigQuiet
import Derived.WideLaws
import Derived.Deep.DeepCutAuto
import Derived.Deep.CutBlock
import Derived.Deep.RegionHeld3
import Derived.Laws.Rows
import Derived.Lib.AppendStr
import Derived.ArgAppend
import Derived.Laws.IdiomCopy
import Derived.OrdersHeld
import Derived.Laws.BitsLemmas
import Derived.RowKit
import Derived.Test.YtplafnaocgifoaaWWords
import Derived.Test.YtplafnaocgifoaaWLast
import Derived.Test.YtplafnaocgifoaaWTab
import Derived.Test.YtplafnaocgifoaaWFour
import Derived.Test.YtplafnaocgifoaaWQPut
import Derived.Test.YtplafnaocgifoaaWApart
import Derived.Test.YtplafnaocgifoaaWArr
import Derived.Test.YtplafnaocgifoaaWZeros
import Derived.Test.YtplafnaocgifoaaWFoot
import Derived.Test.YtplafnaocgifoaaWKept
import Derived.Test.YtplafnaocgifoaaWShare
import Derived.Test.YtplafnaocgifoaaWN
import Derived.Test.YtplafnaocgifoaaWFootNe
import Derived.Test.YtplafnaocgifoaaWAt
import Derived.Test.YtplafnaocgifoaaWEqStruct
import Derived.Test.YtplafnaocgifoaaWRepsOne
import Derived.Test.YtplafnaocgifoaaWInv
import Derived.Test.YtplafnaocgifoaaWInvWords
import Derived.Test.YtplafnaocgifoaaWGuard
import Derived.Test.YtplafnaocgifoaaWNEv
import Derived.Test.YtplafnaocgifoaaWMore
import Derived.Test.YtplafnaocgifoaaSt0
import Derived.Test.YtplafnaocgifoaaStoreD
import Derived.Outline
set_option linter.all false
namespace Go.Proofs.Ytplafnaocgifoaa.St
open Go.RowKit Go.Proofs.YtplafnaocgifoaaW.PrintWords Go.Proofs.YtplafnaocgifoaaW.PrintLast Go.Proofs.YtplafnaocgifoaaW.PrintMore
set_option linter.unusedVariables false
set_option maxHeartbeats 8000000 in
set_option maxRecDepth 100000 in
theorem store_place1.one (w : World) (sb lb cap db n : Nat) (cs : Array Value) (p1 p2 p3 size : Int)
    (hs : w.heap[sb]? = some (.cells #[.slice (some ⟨lb, 0, none⟩) 1 cap] 53 (0, 0))) (hl : w.heap[lb]? = some (.cells cs 59 (0, 0))) (hg : cs[3]? = some (.bool false)) (hd : cs[0]? = some (.slice (some ⟨db, 0, none⟩) n n))
    (hz : size = 1) (h1 : p1 ≤ p3) (h2 : 0 ≤ p3) (h3 : p3 + size ≤ p2) (h4 : p3 + size ≤ n) (h5 : p2 ≤ 1000000) (h6 : n ≤ 1000000) :
    Calls Try.prog 19 #[.pointer (some ⟨sb, 0, none⟩), .agg #[.int .i64 1, .int .i64 p1, .int .i64 p2, .int .i64 p3], .int .i64 size, .bool false] w fun e w' => e = .returned (.tuple #[.pointer (some ⟨lb, 0, none⟩), .int .i64 0]) ∧ Below w.heap.size w w' := by
  have f0 : w.cell? ⟨lb, 0, none⟩ = some (.slice (some ⟨db, 0, none⟩) n n) := (blk_cell hl 0).trans hd
  have n0 := blk_lt hs
  have n1 := blk_lt hl
  have hu24 := Try.underlying24
  have hu53 := Try.underlying53
  have hu59 := Try.underlying59
  have hu56 := Try.underlying56
  have HS := Aside0.mk hs
  have HL := Aside0.mk hl
  have HG := Aside0.mk hg
  have HWI := Aside0.mk (store_within.yes (p1 := p1) (p2 := p2) (p3 := p3) (size := size) (by omega) h3 (by omega) h5)
  subst hz
  have b1 : decide (p3 < p1) = false := decide_eq_false (by omega)
  have b2 : decide (p3 < 0) = false := decide_eq_false (by omega)
  have b3 : decide ((n : Int) < 1) = false := decide_eq_false (by omega)
  have b4 : decide ((n : Int) - 1 < p3) = false := decide_eq_false (by omega)
  have s1 : IntKind.i64.wrap ((n : Int) - 1) = (n : Int) - 1 := IntWalk.i64_in _ (by omega)
  clear hs hl hg hd
  go_enter Try.func19, Try.ntmps19
  go_wp2_with (go_at_call 18; (with_reducible refine (store_fit.one _ sb lb cap cs p1 p2 p3 ?a1 ?a2 ?a3).mono ?_); (case a1 => exact blk_alloc HS.out _); (case a2 => exact blk_alloc HL.out _); (case a3 => exact HG.out); rintro e w1 ⟨rfl, hb⟩; have g0 : w1.cell? ⟨w.heap.size, 0, none⟩ = some (.int .i64 1) := (hb.cell (by simp [World.size_alloc])).trans (by go_simp); have g1 : w1.cell? ⟨w.heap.size, 1, none⟩ = some (.int .i64 p1) := (hb.cell (by simp [World.size_alloc])).trans (by go_simp); have g2 : w1.cell? ⟨w.heap.size, 2, none⟩ = some (.int .i64 p2) := (hb.cell (by simp [World.size_alloc])).trans (by go_simp); have g3 : w1.cell? ⟨w.heap.size, 3, none⟩ = some (.int .i64 p3) := (hb.cell (by simp [World.size_alloc])).trans (by go_simp); have l0 : w1.cell? ⟨lb, 0, none⟩ = some (.slice (some ⟨db, 0, none⟩) n n) := (hb.cell (by simp [World.size_alloc]; omega)).trans (by go_simp); have m1 : lb < w1.heap.size := (by have := hb.size; simp [World.size_alloc] at this; omega); have m0 : w.heap.size < w1.heap.size := (by have := hb.size; simp [World.size_alloc] at this; omega); have HB := Aside0.mk (below_step (by repeat (first | exact Below.refl _ _ | apply below_alloc)) hb : Below w.heap.size w w1); clear hb)
  go_region_held3 (fun w' => w'.cell? ⟨w.heap.size, 0, none⟩ = some (.int .i64 1) ∧ w'.cell? ⟨w.heap.size, 1, none⟩ = some (.int .i64 p1) ∧ w'.cell? ⟨w.heap.size, 2, none⟩ = some (.int .i64 p2) ∧ w'.cell? ⟨w.heap.size, 3, none⟩ = some (.int .i64 p3) ∧ w'.cell? ⟨lb, 0, none⟩ = some (.slice (some ⟨db, 0, none⟩) n n) ∧ lb < w'.heap.size ∧ w.heap.size < w'.heap.size ∧ Below w.heap.size w w') (first | exact ⟨g0, g1, g2, g3, l0, m1, m0, below_drew HB.out⟩ | exact ⟨q0, q1, q2, q3, q4, q5, q6, HB2.out⟩ | go_keep) (first | (go_at_call 22; (with_reducible refine (store_within.calls 1 p1 p2 p3 0 1 true _ HWI.out).mono ?_); rintro e w2 ⟨rfl, hb2⟩; have q0 : w2.cell? ⟨w.heap.size, 0, none⟩ = some (.int .i64 1) := (hb2.cell m0).trans g0; have q1 : w2.cell? ⟨w.heap.size, 1, none⟩ = some (.int .i64 p1) := (hb2.cell m0).trans g1; have q2 : w2.cell? ⟨w.heap.size, 2, none⟩ = some (.int .i64 p2) := (hb2.cell m0).trans g2; have q3 : w2.cell? ⟨w.heap.size, 3, none⟩ = some (.int .i64 p3) := (hb2.cell m0).trans g3; have q4 : w2.cell? ⟨lb, 0, none⟩ = some (.slice (some ⟨db, 0, none⟩) n n) := (hb2.cell m1).trans l0; have q5 := Nat.lt_of_lt_of_le m1 hb2.size; have q6 := Nat.lt_of_lt_of_le m0 hb2.size; have HB2 := Aside0.mk (below_step (below_drew HB.out) hb2)))
  go_wp2
  refine bodyPost_ret (v := .tuple #[.pointer (some ⟨lb, 0, none⟩), .int .i64 0]) (by simp [results, Try.results19, go_sem]) rfl ?_
  exact ⟨rfl, HB2.out⟩
set_option maxHeartbeats 8000000 in
set_option maxRecDepth 100000 in
theorem store_forget1_none (w : World) (lb P : Nat) (cs : Array Value) (hl : w.heap[lb]? = some (.cells cs 59 (0, 0))) (hg : cs[2]? = some (.map none)) (hP : P ≤ 1000000) :
    Calls Try.prog 20 #[.pointer (some ⟨lb, 0, none⟩), .int .i64 P, .int .i64 1] w fun e w' => e = .returned (.tuple #[]) ∧ w' = w := by
  have n1 := blk_lt hl
  have hu59 := Try.underlying59
  have f2 : w.cell? ⟨lb, 2, none⟩ = some (.map none) := (blk_cell hl 2).trans hg
  have s0 : IntKind.i64.wrap ((P : Int) - 4) = (P : Int) - 4 := IntWalk.i64_in _ (by omega)
  have s1 : IntKind.i64.wrap ((P : Int) - 4 + 1) = (P : Int) - 3 + ((0 : Nat) : Int) := (IntWalk.i64_in _ (by omega)).trans (by omega)
  have s2 : IntKind.i64.wrap ((P : Int) + 1) = (P : Int) + 1 := IntWalk.i64_in _ (by omega)
  have b1 : decide ((P : Int) - 3 < (P : Int) + 1) = true := decide_eq_true (by omega)
  have hlen := Maps.len_nil (P := Try.prog) (w := w) Try.underlying57 3
  clear hl hg
  go_enter Try.func20, Try.ntmps20
  go_wp2
  refine wp_loop_rounds 1 ?_
  rw [rounds_succ]
  go_wp2
  refine bodyPost_end (v := .tuple #[]) (by simp [results, Try.results20, go_sem]) rfl ?_
  exact ⟨rfl, rfl⟩
theorem store_place1_ob (w0 w : World) (sb lb cap db tb n m P : Nat) (mp : Option Nat) (g : Int → S24) (data : List Int) (set : List Bool) (h : store_Ob w0 w sb lb cap db tb n mp m g data set) (p1 p2 : Int)
    (h1 : p1 ≤ (P : Int)) (h3 : (P : Int) + 1 ≤ p2) (h4 : (P : Int) + 1 ≤ n) (h5 : p2 ≤ 1000000) (h6 : n ≤ 1000000) :
    Calls Try.prog 19 #[.pointer (some ⟨sb, 0, none⟩), .agg #[.int .i64 1, .int .i64 p1, .int .i64 p2, .int .i64 P], .int .i64 1, .bool false] w fun e w' => e = .returned (.tuple #[.pointer (some ⟨lb, 0, none⟩), .int .i64 0]) ∧ Below w.heap.size w w' := by
  obtain ⟨cs, l1, l2, l3, l4, l5⟩ := h.l
  exact store_place1.one w sb lb cap db n cs p1 p2 P 1 h.s l1 l5 l2 rfl h1 (Int.natCast_nonneg _) h3 h4 h5 h6
theorem store_forget1_ob (w0 w : World) (sb lb cap db tb n m P : Nat) (g : Int → S24) (data : List Int) (set : List Bool) (h : store_Ob w0 w sb lb cap db tb n none m g data set) (hP : P ≤ 1000000) :
    Calls Try.prog 20 #[.pointer (some ⟨lb, 0, none⟩), .int .i64 P, .int .i64 1] w fun e w' => e = .returned (.tuple #[]) ∧ store_Ob w0 w' sb lb cap db tb n none m g data set ∧ store_Kept w w' ∧ w.heap.size ≤ w'.heap.size := by
  obtain ⟨cs, l1, l2, l3, l4, l5⟩ := h.l
  refine (store_forget1_none w lb P cs l1 l4 hP).mono ?_
  rintro e w' ⟨rfl, rfl⟩
  exact ⟨rfl, h, fun _ _ _ a _ _ _ => a, Nat.le_refl _⟩
set_option maxHeartbeats 8000000 in
set_option maxRecDepth 100000 in
theorem store_Load1.num (w : World) (sb lb cap db tb n P : Nat) (cs : Array Value) (data : List Int) (set : List Bool) (p1 p2 : Int) (bd : Nat → Int)
    (hs : w.heap[sb]? = some (.cells #[.slice (some ⟨lb, 0, none⟩) 1 cap] 53 (0, 0))) (hl : w.heap[lb]? = some (.cells cs 59 (0, 0))) (hg : cs[3]? = some (.bool false)) (hd : cs[0]? = some (.slice (some ⟨db, 0, none⟩) n n)) (ht : cs[1]? = some (.slice (some ⟨tb, 0, none⟩) n n))
    (hdb : w.heap[db]? = some (.cells (nums .u8 data).toArray 5 (0, 0))) (htb : w.heap[tb]? = some (.cells (bools set).toArray 4 (0, 0)))
    (h1 : p1 ≤ (P : Int)) (h3 : (P : Int) + 1 ≤ p2) (h4 : (P : Int) + 1 ≤ n) (h5 : p2 ≤ 1000000) (h6 : n ≤ 1000000) (hbd : ∀ j, j < 1 → data[P + j]? = some (bd j)) (hbs : ∀ j, j < 1 → set[P + j]? = some true) :
    Calls Try.prog 11 #[.pointer (some ⟨sb, 0, none⟩), .agg #[.int .i64 1, .int .i64 p1, .int .i64 p2, .int .i64 P], .int .i64 1, .bool false] w fun e w' => e = .returned (.tuple #[.agg #[.int .u32 (store_ldv bd 1), .int .i64 0, .int .i64 0, .int .i64 0, .int .i64 0, .bool false], .int .i64 0]) ∧ Below w.heap.size w w' := by
  have n0 := blk_lt hs
  have n1 := blk_lt hl
  have n2 := blk_lt hdb
  have n3 := blk_lt htb
  have hu24 := Try.underlying24
  have hu26 := Try.underlying26
  have hu59 := Try.underlying59
  have hu56 := Try.underlying56
  have hu41 := Try.underlying41
  have hu54 := Try.underlying54
  have HS := Aside0.mk hs
  have HL := Aside0.mk hl
  have HG := Aside0.mk hg
  have HD := Aside0.mk hd
  have HT := Aside0.mk ht
  have HDB := Aside0.mk hdb
  have HTB := Aside0.mk htb
  have HBD := Aside0.mk hbd
  have HBS := Aside0.mk hbs
  have h2 : (0 : Int) ≤ (P : Int) := Int.natCast_nonneg _
  clear hs hl hg hd ht hdb htb hbd hbs
  go_enter Try.func11, Try.ntmps11
  go_wp2_with (go_at_call 19; (with_reducible refine (store_place1.one _ sb lb cap db n cs p1 p2 P 1 ?a1 ?a2 ?a3 ?a4 rfl h1 h2 h3 h4 h5 h6).mono ?_); (case a1 => exact blk_alloc (blk_alloc HS.out _) _); (case a2 => exact blk_alloc (blk_alloc HL.out _) _); (case a3 => exact HG.out); (case a4 => exact HD.out); rintro e w1 ⟨rfl, hb⟩; have HB0 := Aside0.mk hb; clear hb)
  go_loopg [12, 27] 1 (fun kq v12 v27 w' => ∃ (i : Nat), v27 = .int .i64 i ∧ v12 = .int .u32 (store_ldv bd i) ∧ Aside0 (kq + i = 1) ∧ i ≤ 1 ∧ Aside0 (Below ((w.alloc (.cells #[.int .i64 1, .int .i64 p1, .int .i64 p2, .int .i64 P] 24)).alloc (.cells #[.int .u32 0, .int .i64 0, .int .i64 0, .int .i64 0, .int .i64 0, .bool false] 26)).heap.size ((w.alloc (.cells #[.int .i64 1, .int .i64 p1, .int .i64 p2, .int .i64 P] 24)).alloc (.cells #[.int .u32 0, .int .i64 0, .int .i64 0, .int .i64 0, .int .i64 0, .bool false] 26)) w'))
  case atStart => exact ⟨0, rfl, rfl, ⟨rfl⟩, by omega, HB0⟩
  case round =>
    obtain ⟨i, rfl, rfl, HK, hi, HB⟩ := hrel
    have HLr := Aside0.mk (blk_below (blk_alloc (blk_alloc HL.out _) _) HB.out)
    have f0 : wr.cell? ⟨lb, 0, none⟩ = some (.slice (some ⟨db, 0, none⟩) n n) := (blk_cell HLr.out 0).trans HD.out
    have f1 : wr.cell? ⟨lb, 1, none⟩ = some (.slice (some ⟨tb, 0, none⟩) n n) := (blk_cell HLr.out 1).trans HT.out
    have f3 : wr.cell? ⟨w.heap.size, 3, none⟩ = some (.int .i64 P) := (HB.out.cell (by simp [World.size_alloc]; omega)).trans (by go_simp)
    by_cases hlt : i < 1
    · have ft : wr.cell? ⟨tb, P + i, none⟩ = some (.bool true) := (blk_cell (blk_below (blk_alloc (blk_alloc HTB.out _) _) HB.out) _).trans (by simp [bools, HBS.out i hlt])
      have fd : wr.cell? ⟨db, P + i, none⟩ = some (.int .u8 (bd i)) := (blk_cell (blk_below (blk_alloc (blk_alloc HDB.out _) _) HB.out) _).trans (by simp [nums, HBD.out i hlt])
      have q1 : (0 : Int) ≤ ((P + i : Nat) : Int) := Int.natCast_nonneg _
      have q2 : ((P + i : Nat) : Int) < (n : Int) := by omega
      have s1 : IntKind.i64.wrap ((P : Int) + (i : Int)) = ((P + i : Nat) : Int) := (IntWalk.i64_in _ (by omega)).trans (by omega)
      have s2 : IntKind.i64.wrap (8 * (i : Int)) = ((8 * i : Nat) : Int) := (IntWalk.i64_in _ (by omega)).trans (by omega)
      have s3 : IntKind.i64.wrap ((i : Int) + 1) = ((i + 1 : Nat) : Int) := (IntWalk.i64_in _ (by omega)).trans (by omega)
      have q3 : (0 : Int) ≤ ((8 * i : Nat) : Int) := Int.natCast_nonneg _
      go_wp2
      go_quiet (fail)
      go_wp2
      go_quiet (fail)
      go_wp2
      go_roundg (gk - 1)
      case measure => have := HK.out; omega
      case rel => exact ⟨i + 1, by go_num, rfl, ⟨by have := HK.out; omega⟩, by omega, ⟨by apply pw_below_drewN; exact HB.out⟩⟩
    · have hi4 : i = 1 := by omega
      subst hi4
      have HR := Aside0.mk (blk_below (store_second w _ _) HB.out)
      have r0 : wr.cell? ⟨w.heap.size + 1, 0, none⟩ = some (.int .u32 0) := (blk_cell HR.out 0).trans rfl
      have r1 : wr.cell? ⟨w.heap.size + 1, 1, none⟩ = some (.int .i64 0) := (blk_cell HR.out 1).trans rfl
      have r2 : wr.cell? ⟨w.heap.size + 1, 2, none⟩ = some (.int .i64 0) := (blk_cell HR.out 2).trans rfl
      have r3 : wr.cell? ⟨w.heap.size + 1, 3, none⟩ = some (.int .i64 0) := (blk_cell HR.out 3).trans rfl
      have r4 : wr.cell? ⟨w.heap.size + 1, 4, none⟩ = some (.int .i64 0) := (blk_cell HR.out 4).trans rfl
      have r5 : wr.cell? ⟨w.heap.size + 1, 5, none⟩ = some (.bool false) := (blk_cell HR.out 5).trans rfl
      have y0 := blk_frozen HR.out 0
      have y1 := blk_frozen HR.out 1
      have y2 := blk_frozen HR.out 2
      have y3 := blk_frozen HR.out 3
      have y4 := blk_frozen HR.out 4
      have y5 := blk_frozen HR.out 5
      go_wp2
      refine bodyPost_ret (results_ct rfl _ _ (w.heap.size + 1) 26 #[.int .u32 (store_ldv bd 1), .int .i64 0, .int .i64 0, .int .i64 0, .int .i64 0, .bool false] (0, 0) _ rfl (blk_put (blk_put (blk_put (blk_put (blk_put (blk_put HR.out 0 _ rfl) 1 _ rfl) 2 _ rfl) 3 _ rfl) 4 _ rfl) 5 _ rfl) Try.underlying26 rfl (by kernel_rfl)) rfl ?_
      have HBB := below_step (below_alloc (below_alloc (Below.refl w.heap.size w) _) _) HB.out
      exact ⟨rfl, by repeat (first | exact HBB | (refine below_set ?_ (by omega)))⟩
theorem store_Load1_num_ob (w0 w : World) (sb lb cap db tb n m P : Nat) (mp : Option Nat) (g : Int → S24) (data : List Int) (set : List Bool) (h : store_Ob w0 w sb lb cap db tb n mp m g data set) (p1 p2 : Int) (bd : Nat → Int)
    (h1 : p1 ≤ (P : Int)) (h3 : (P : Int) + 1 ≤ p2) (h4 : (P : Int) + 1 ≤ n) (h5 : p2 ≤ 1000000) (h6 : n ≤ 1000000) (hbd : ∀ j, j < 1 → data[P + j]? = some (bd j)) (hbs : ∀ j, j < 1 → set[P + j]? = some true) :
    Calls Try.prog 11 #[.pointer (some ⟨sb, 0, none⟩), .agg #[.int .i64 1, .int .i64 p1, .int .i64 p2, .int .i64 P], .int .i64 1, .bool false] w fun e w' => e = .returned (.tuple #[.agg #[.int .u32 (store_ldv bd 1), .int .i64 0, .int .i64 0, .int .i64 0, .int .i64 0, .bool false], .int .i64 0]) ∧ Below w.heap.size w w' := by
  obtain ⟨cs, l1, l2, l3, l4, l5⟩ := h.l
  exact store_Load1.num w sb lb cap db tb n P cs data set p1 p2 bd h.s l1 l5 l2 l3 h.d h.t h1 h3 h4 h5 h6 hbd hbs
set_option maxHeartbeats 8000000 in
set_option maxRecDepth 100000 in
theorem store_Load1_unset (w0 w : World) (sb lb cap db tb n m P : Nat) (mp : Option Nat) (g : Int → S24) (data : List Int) (set : List Bool) (p1 p2 : Int)
    (h : store_Ob w0 w sb lb cap db tb n mp m g data set)
    (h1 : p1 ≤ (P : Int)) (h3 : (P : Int) + 1 ≤ p2) (h4 : (P : Int) + 1 ≤ n) (h5 : p2 ≤ 1000000) (h6 : n ≤ 1000000) (hbs : set[P]? = some false) :
    Calls Try.prog 11 #[.pointer (some ⟨sb, 0, none⟩), .agg #[.int .i64 1, .int .i64 p1, .int .i64 p2, .int .i64 P], .int .i64 1, .bool false] w fun e w' => e = .returned (.tuple #[.agg #[.int .u32 0, .int .i64 0, .int .i64 0, .int .i64 0, .int .i64 0, .bool false], .int .i64 13]) ∧ Below w.heap.size w w' := by
  obtain ⟨cs, hl, hd, ht, hmp, hg⟩ := h.l
  have hs := h.s
  have hdb := h.d
  have htb := h.t
  clear h hmp
  have n0 := blk_lt hs
  have n1 := blk_lt hl
  have n2 := blk_lt hdb
  have n3 := blk_lt htb
  have hu24 := Try.underlying24
  have hu26 := Try.underlying26
  have hu59 := Try.underlying59
  have hu56 := Try.underlying56
  have hu41 := Try.underlying41
  have hu54 := Try.underlying54
  have HS := Aside0.mk hs
  have HL := Aside0.mk hl
  have HG := Aside0.mk hg
  have HD := Aside0.mk hd
  have HT := Aside0.mk ht
  have HDB := Aside0.mk hdb
  have HTB := Aside0.mk htb
  have HBS := Aside0.mk hbs
  have h2 : (0 : Int) ≤ (P : Int) := Int.natCast_nonneg _
  clear hs hl hg hd ht hdb htb hbs
  go_enter Try.func11, Try.ntmps11
  go_wp2_with (go_at_call 19; (with_reducible refine (store_place1.one _ sb lb cap db n cs p1 p2 P 1 ?a1 ?a2 ?a3 ?a4 rfl h1 h2 h3 h4 h5 h6).mono ?_); (case a1 => exact blk_alloc (blk_alloc HS.out _) _); (case a2 => exact blk_alloc (blk_alloc HL.out _) _); (case a3 => exact HG.out); (case a4 => exact HD.out); rintro e w1 ⟨rfl, hb⟩; have HB0 := Aside0.mk hb; clear hb)
  have HB := HB0
  have HLr := Aside0.mk (blk_below (blk_alloc (blk_alloc HL.out _) _) HB.out)
  have f0 : w1.cell? ⟨lb, 0, none⟩ = some (.slice (some ⟨db, 0, none⟩) n n) := (blk_cell HLr.out 0).trans HD.out
  have f1 : w1.cell? ⟨lb, 1, none⟩ = some (.slice (some ⟨tb, 0, none⟩) n n) := (blk_cell HLr.out 1).trans HT.out
  have f3 : w1.cell? ⟨w.heap.size, 3, none⟩ = some (.int .i64 P) := (HB.out.cell (by simp [World.size_alloc]; omega)).trans (by go_simp)
  have ft : w1.cell? ⟨tb, P, none⟩ = some (.bool false) := (blk_cell (blk_below (blk_alloc (blk_alloc HTB.out _) _) HB.out) _).trans (by simp [bools, HBS.out])
  have q1 : (0 : Int) ≤ (P : Int) := Int.natCast_nonneg _
  have q2 : (P : Int) < (n : Int) := by omega
  have s1 : IntKind.i64.wrap (P : Int) = (P : Int) := IntWalk.i64_in _ (by omega)
  have HR := Aside0.mk (blk_below (store_second w _ _) HB.out)
  have r0 : w1.cell? ⟨w.heap.size + 1, 0, none⟩ = some (.int .u32 0) := (blk_cell HR.out 0).trans rfl
  have r1 : w1.cell? ⟨w.heap.size + 1, 1, none⟩ = some (.int .i64 0) := (blk_cell HR.out 1).trans rfl
  have r2 : w1.cell? ⟨w.heap.size + 1, 2, none⟩ = some (.int .i64 0) := (blk_cell HR.out 2).trans rfl
  have r3 : w1.cell? ⟨w.heap.size + 1, 3, none⟩ = some (.int .i64 0) := (blk_cell HR.out 3).trans rfl
  have r4 : w1.cell? ⟨w.heap.size + 1, 4, none⟩ = some (.int .i64 0) := (blk_cell HR.out 4).trans rfl
  have r5 : w1.cell? ⟨w.heap.size + 1, 5, none⟩ = some (.bool false) := (blk_cell HR.out 5).trans rfl
  have y0 := blk_frozen HR.out 0
  have y1 := blk_frozen HR.out 1
  have y2 := blk_frozen HR.out 2
  have y3 := blk_frozen HR.out 3
  have y4 := blk_frozen HR.out 4
  have y5 := blk_frozen HR.out 5
  refine wp_loop_rounds 1 ?_
  rw [rounds_succ]
  go_wp2
  go_quiet (fail)
  go_wp2
  refine bodyPost_ret (results_ct rfl _ _ (w.heap.size + 1) 26 #[.int .u32 0, .int .i64 0, .int .i64 0, .int .i64 0, .int .i64 0, .bool false] (0, 0) _ rfl (blk_put (blk_put (blk_put (blk_put (blk_put (blk_put (blk_drewN HR.out _) 0 _ rfl) 1 _ rfl) 2 _ rfl) 3 _ rfl) 4 _ rfl) 5 _ rfl) Try.underlying26 rfl (by kernel_rfl)) rfl ?_
  have HBB := below_step (below_alloc (below_alloc (Below.refl w.heap.size w) _) _) HB.out
  have HBC := pw_below_drewN HBB nq
  exact ⟨rfl, by repeat (first | exact HBC | (refine below_set ?_ (by omega)))⟩
set_option maxHeartbeats 8000000 in
set_option maxRecDepth 100000 in
theorem store_Put1_num (w0 w : World) (sb lb cap db tb n m P : Nat) (mp : Option Nat) (g : Int → S24) (data : List Int) (set : List Bool) (h : store_Ob w0 w sb lb cap db tb n none m g data set) (p1 p2 : Int) (x : Int) (q : S24)
    (h1 : p1 ≤ (P : Int)) (h3 : (P : Int) + 1 ≤ p2) (h4 : (P : Int) + 1 ≤ n) (h5 : p2 ≤ 1000000) (h6 : n ≤ 1000000) (hx : 0 ≤ x ∧ x < 4294967296) (hmp : mp = none) :
    Calls Try.prog 10 #[.pointer (some ⟨sb, 0, none⟩), .agg #[.int .i64 1, .int .i64 p1, .int .i64 p2, .int .i64 P], .int .i64 1, .agg #[.int .u32 x, .int .i64 q.f0, .int .i64 q.f1, .int .i64 q.f2, .int .i64 q.f3, .bool false]] w fun e w' => e = .returned (.int .i64 0) ∧ store_Ob w0 w' sb lb cap db tb n none m g (store_wr data P x 1) (store_on set P 1) ∧ store_Kept w w' ∧ w.heap.size ≤ w'.heap.size := by
  have hu24 := Try.underlying24
  have hu26 := Try.underlying26
  have hu59 := Try.underlying59
  have hu56 := Try.underlying56
  have hu41 := Try.underlying41
  have hu54 := Try.underlying54
  have H := Aside0.mk h
  subst hmp
  have hP : P ≤ 1000000 := by omega
  clear h
  go_enter Try.func10, Try.ntmps10
  go_wp2_with (first | (go_at_call 19; (with_reducible refine (store_place1_ob w0 _ sb lb cap db tb n m P none g data set ?a1 p1 p2 h1 h3 h4 h5 h6).mono ?_); (case a1 => exact H.out.step (below_alloc (below_alloc (Below.refl _ _) _) _)); rintro e w1 ⟨rfl, hb⟩; have H1 := Aside0.mk (H.out.step (below_step (below_alloc (below_alloc (Below.refl w.heap.size w) _) _) hb)); have BX1 := Aside0.mk (blk_below (blk_alloc (blk_new w _) _) hb); have BY1 := Aside0.mk (blk_below (store_second w _ _) hb); have KP1 := Aside0.mk (store_Kept.below (below_step (below_alloc (below_alloc (Below.refl w.heap.size w) _) _) hb)); have a1 : w1.cell? ⟨w.heap.size + 1, 0, none⟩ = some (.int .u32 x) := (blk_cell BY1.out 0).trans rfl; have a3 : w1.cell? ⟨w.heap.size, 3, none⟩ = some (.int .i64 P) := (blk_cell BX1.out 3).trans rfl; have SZ1 : w.heap.size ≤ w1.heap.size := (by have := hb.size; simp [World.size_alloc] at this; omega); clear hb) | (go_at_call 20; (with_reducible refine (store_forget1_ob w0 w1 sb lb cap db tb n m P g data set H1.out hP).mono ?_); rintro e w2 ⟨rfl, hO, hK, hZ⟩; have H2 := Aside0.mk hO; have BX2 := Aside0.mk (hK _ _ _ BX1.out (by decide) (by decide) (by decide)); have KP2 := Aside0.mk (KP1.out.trans hK); have a2 : w2.cell? ⟨w.heap.size + 1, 5, none⟩ = some (.bool false) := (blk_cell (hK _ _ _ BY1.out (by decide) (by decide) (by decide)) 5).trans rfl; have SZ2 := Nat.le_trans SZ1 hZ; clear hO hK hZ))
  go_loopg [52] 1 (fun kq v52 w' => ∃ i : Nat, v52 = .int .i64 i ∧ Aside0 (kq + i = 1) ∧ i ≤ 1 ∧ Aside0 (store_Ob w0 w' sb lb cap db tb n none m g (store_wr data P x i) (store_on set P i)) ∧ Aside0 (w'.heap[w.heap.size]? = some (.cells #[.int .i64 1, .int .i64 p1, .int .i64 p2, .int .i64 P] 24 (0, 0))) ∧ Aside0 (store_Kept w w') ∧ Aside0 (w.heap.size ≤ w'.heap.size))
  case atStart => exact ⟨0, rfl, ⟨rfl⟩, by omega, H2, BX2, KP2, ⟨SZ2⟩⟩
  case round =>
    obtain ⟨i, rfl, HK, hi, HO, BXr, KPr, SZr⟩ := hrel
    obtain ⟨cs, l1, l2, l3, l4, l5⟩ := HO.out.l
    have f0 : wr.cell? ⟨lb, 0, none⟩ = some (.slice (some ⟨db, 0, none⟩) n n) := (blk_cell l1 0).trans l2
    have f1 : wr.cell? ⟨lb, 1, none⟩ = some (.slice (some ⟨tb, 0, none⟩) n n) := (blk_cell l1 1).trans l3
    have f3 : wr.cell? ⟨w.heap.size, 3, none⟩ = some (.int .i64 P) := (blk_cell BXr.out 3).trans rfl
    have HL := Aside0.mk l1
    clear l1 l2 l3 l4 l5
    have x1 : db ≠ lb := blk_ne HO.out.d HL.out (by decide)
    have x2 : tb ≠ lb := blk_ne HO.out.t HL.out (by decide)
    have x3 : db ≠ tb := blk_ne HO.out.d HO.out.t (by decide)
    have x4 : db ≠ w.heap.size := blk_ne HO.out.d BXr.out (by decide)
    have x5 : tb ≠ w.heap.size := blk_ne HO.out.t BXr.out (by decide)
    by_cases hlt : i < 1
    · have hld : P + i < (store_wr data P x i).length := by rw [store_wr_length]; have := H.out.dl; omega
      have hlo : P + i < (store_on set P i).length := by rw [store_on_length]; have := H.out.tl; omega
      have ft : wr.cell? ⟨tb, P + i, none⟩ = some (.bool (store_on set P i)[P + i]) := (blk_cell HO.out.t _).trans (by simp [bools, hlo])
      have fd : wr.cell? ⟨db, P + i, none⟩ = some (.int .u8 (store_wr data P x i)[P + i]) := (blk_cell HO.out.d _).trans (by simp [nums, hld])
      have zt := blk_frozen HO.out.t (P + i)
      have zd := blk_frozen HO.out.d (P + i)
      have q1 : (0 : Int) ≤ ((P + i : Nat) : Int) := Int.natCast_nonneg _
      have q2 : ((P + i : Nat) : Int) < (n : Int) := by omega
      have s1 : IntKind.i64.wrap ((P : Int) + (i : Int)) = ((P + i : Nat) : Int) := (IntWalk.i64_in _ (by omega)).trans (by omega)
      have s2 : IntKind.i64.wrap (8 * (i : Int)) = ((8 * i : Nat) : Int) := (IntWalk.i64_in _ (by omega)).trans (by omega)
      have s3 : IntKind.i64.wrap ((i : Int) + 1) = ((i + 1 : Nat) : Int) := (IntWalk.i64_in _ (by omega)).trans (by omega)
      have q3 : (0 : Int) ≤ ((8 * i : Nat) : Int) := Int.natCast_nonneg _
      obtain ⟨oldt, eot⟩ : ∃ o, o = (store_on set P i)[P + i] := ⟨_, rfl⟩
      obtain ⟨oldd, eod⟩ : ∃ o, o = (store_wr data P x i)[P + i] := ⟨_, rfl⟩
      rw [← eot] at ft
      rw [← eod] at fd
      clear eot eod hld hlo
      go_wp2
      go_big_region
      go_wp2
      go_roundg (gk - 1)
      case measure => have := HK.out; omega
      case rel =>
        have HO2 := (HO.out.putD (P + i) (x / 2 ^ (8 * i) % 256))
        refine ⟨i + 1, by go_num, ⟨by have := HK.out; omega⟩, by omega, ⟨(HO2.putT (P + i) true).drew⟩, ⟨?_⟩, ⟨?_⟩, ⟨?_⟩⟩
        · exact blk_far (blk_far BXr.out (p := ⟨db, P + i, none⟩) (Ne.symm x4) _) (p := ⟨tb, P + i, none⟩) (Ne.symm x5) _
        · exact (KPr.out.trans (store_Kept.set HO.out.d (.inr (.inl rfl)) _)).trans (store_Kept.set HO2.t (.inr (.inr rfl)) _)
        · simpa [World.setCell] using SZr.out
    · have hi4 : i = 1 := by omega
      subst hi4
      go_wp2
      go_ret
      exact ⟨rfl, HO.out, KPr.out, SZr.out⟩
end Go.Proofs.Ytplafnaocgifoaa.St
