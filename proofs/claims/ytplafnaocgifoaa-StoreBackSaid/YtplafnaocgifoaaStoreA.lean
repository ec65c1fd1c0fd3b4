/- StoreA: functions of the program walked by hand, and what they come to. -/
import Derived.Test.YtplafnaocgifoaaProg
import Derived.Below
import Derived.Deep.Draws
import Derived.Deep.AppendLies
import Derived.Maps.AppendAt
import Derived.OwnWalk
import Derived.Laws.BytesArg
import Derived.Laws.MakeOwn
import Derived.Laws.OwnMore
import Derived.Deep.OwnRows
import Derived.Tactics
import Derived.Lib.ConvBytes
import Derived.Laws.Slices
import Derived.WalkKit
import Derived.KernelRfl
import Derived.RowKit3
import Derived.Deep.LoopGhost
import Derived.Deep.QuietTactic
import Derived.BigQuiet
import Derived.WideLaws
import Derived.Deep.DeepCutAuto
import Derived.Deep.CutBlock
import Derived.Deep.RegionHeld3
import Derived.Laws.Rows
import Derived.Lib.AppendStr
import Derived.ArgAppend
import Derived.Laws.IdiomCopy
import Derived.OrdersHeld
import Derived.Laws.BitsLemmas
import Derived.RowKit
import Derived.Test.YtplafnaocgifoaaWWords
import Derived.Test.YtplafnaocgifoaaWLast
import Derived.Test.YtplafnaocgifoaaWTab
import Derived.Test.YtplafnaocgifoaaWFour
import Derived.Test.YtplafnaocgifoaaWQPut
import Derived.Test.YtplafnaocgifoaaWApart
import Derived.Test.YtplafnaocgifoaaWArr
import Derived.Test.YtplafnaocgifoaaWZeros
import Derived.Test.YtplafnaocgifoaaWFoot
import Derived.Test.YtplafnaocgifoaaWKept
import Derived.Test.YtplafnaocgifoaaWShare
import Derived.Test.YtplafnaocgifoaaWN
import Derived.Test.YtplafnaocgifoaaWFootNe
import Derived.Test.YtplafnaocgifoaaWAt
import Derived.Test.YtplafnaocgifoaaWEqStruct
import Derived.Test.YtplafnaocgifoaaWRepsOne
import Derived.Test.YtplafnaocgifoaaWInv
import Derived.Test.YtplafnaocgifoaaWInvWords
import Derived.Test.YtplafnaocgifoaaWGuard
import Derived.Test.YtplafnaocgifoaaWNEv
import Derived.Test.YtplafnaocgifoaaWMore
import Derived.Test.YtplafnaocgifoaaSt0
import Derived.Test.YtplafnaocgifoaaSt1
import Derived.Deep.RegionHeld3
import Derived.IntWalk
import Derived.Outline
set_option linter.all false
namespace Go.Proofs.Ytplafnaocgifoaa.St
open Go.RowKit Go.Proofs.YtplafnaocgifoaaW.PrintWords Go.Proofs.YtplafnaocgifoaaW.PrintLast Go.Proofs.YtplafnaocgifoaaW.PrintMore
set_option maxHeartbeats 8000000 in
set_option maxRecDepth 100000 in
theorem store_fit.one (w : World) (sb lb cap : Nat) (cs : Array Value) (p1 p2 p3 : Int)
    (hs : w.heap[sb]? = some (.cells #[.slice (some ⟨lb, 0, none⟩) 1 cap] 53 (0, 0))) (hl : w.heap[lb]? = some (.cells cs 59 (0, 0))) (hg : cs[3]? = some (.bool false)) :
    Calls Try.prog 18 #[.pointer (some ⟨sb, 0, none⟩), .agg #[.int .i64 1, .int .i64 p1, .int .i64 p2, .int .i64 p3]] w fun e w' => e = .returned (.tuple #[.pointer (some ⟨lb, 0, none⟩), .int .i64 0]) ∧ Below w.heap.size w w' := by
  have f0 : w.cell? ⟨sb, 0, none⟩ = some (.slice (some ⟨lb, 0, none⟩) 1 cap) := (blk_cell hs 0).trans rfl
  have f3 : w.cell? ⟨lb, 3, none⟩ = some (.bool false) := (blk_cell hl 3).trans hg
  have n0 := blk_lt hs
  have n1 := blk_lt hl
  have hu24 := Try.underlying24
  have hu53 := Try.underlying53
  have hu59 := Try.underlying59
  have hu51 := Try.underlying51
  clear hs hl hg
  go_enter Try.func18, Try.ntmps18
  go_wp2
  go_quiet (fail)
  go_wp2
  go_quiet (fail)
  go_wp2
  go_quiet (fail)
  go_wp2
  refine bodyPost_ret (v := .tuple #[.pointer (some ⟨lb, 0, none⟩), .int .i64 0]) (by simp [results, Try.results18, go_sem]) rfl ?_
  exact ⟨rfl, by repeat (first | exact Below.refl _ _ | apply below_alloc | apply pw_below_drewN)⟩
theorem store_second (w : World) (o1 o2 : Obj) : ((w.alloc o1).alloc o2).heap[w.heap.size + 1]? = some o2 := by
  have h := blk_new (w.alloc o1) o2
  rw [World.size_alloc] at h
  exact h
theorem store_within.yes {p1 p2 p3 size : Int} (h1 : 1 ≤ size) (h3 : p3 + size ≤ p2) (h4 : -1000000 ≤ p3) (h5 : p2 ≤ 1000000) : store_within.f 1 p1 p2 p3 0 size = some true := by
  have w1 : wrap64 (p2 - p3) = p2 - p3 := by unfold wrap64; omega
  have w2 : wrap64 (p2 - p3 - 0) = p2 - p3 := by unfold wrap64; omega
  unfold store_within.f
  rw [if_pos (by omega), if_pos (by omega), if_pos (by omega), w1, if_pos (by omega), w2, decide_eq_true (by omega)]
set_option maxHeartbeats 8000000 in
set_option maxRecDepth 100000 in
theorem store_place.one (w : World) (sb lb cap db n : Nat) (cs : Array Value) (p1 p2 p3 size : Int) (ptr : Bool)
    (hs : w.heap[sb]? = some (.cells #[.slice (some ⟨lb, 0, none⟩) 1 cap] 53 (0, 0))) (hl : w.heap[lb]? = some (.cells cs 59 (0, 0))) (hg : cs[3]? = some (.bool false)) (hd : cs[0]? = some (.slice (some ⟨db, 0, none⟩) n n))
    (hz : size = 4) (h1 : p1 ≤ p3) (h2 : 0 ≤ p3) (h3 : p3 + size ≤ p2) (h4 : p3 + size ≤ n) (h5 : p2 ≤ 1000000) (h6 : n ≤ 1000000) :
    Calls Try.prog 19 #[.pointer (some ⟨sb, 0, none⟩), .agg #[.int .i64 1, .int .i64 p1, .int .i64 p2, .int .i64 p3], .int .i64 size, .bool ptr] w fun e w' => e = .returned (.tuple #[.pointer (some ⟨lb, 0, none⟩), .int .i64 0]) ∧ Below w.heap.size w w' := by
  have f0 : w.cell? ⟨lb, 0, none⟩ = some (.slice (some ⟨db, 0, none⟩) n n) := (blk_cell hl 0).trans hd
  have n0 := blk_lt hs
  have n1 := blk_lt hl
  have hu24 := Try.underlying24
  have hu53 := Try.underlying53
  have hu59 := Try.underlying59
  have hu56 := Try.underlying56
  have HS := Aside0.mk hs
  have HL := Aside0.mk hl
  have HG := Aside0.mk hg
  have HWI := Aside0.mk (store_within.yes (p1 := p1) (p2 := p2) (p3 := p3) (size := size) (by omega) h3 (by omega) h5)
  subst hz
  have b1 : decide (p3 < p1) = false := decide_eq_false (by omega)
  have b2 : decide (p3 < 0) = false := decide_eq_false (by omega)
  have b3 : decide ((n : Int) < 4) = false := decide_eq_false (by omega)
  have b4 : decide ((n : Int) - 4 < p3) = false := decide_eq_false (by omega)
  have s1 : IntKind.i64.wrap ((n : Int) - 4) = (n : Int) - 4 := IntWalk.i64_in _ (by omega)
  clear hs hl hg hd
  go_enter Try.func19, Try.ntmps19
  cases ptr
  all_goals (
    go_wp2_with (go_at_call 18; (with_reducible refine (store_fit.one _ sb lb cap cs p1 p2 p3 ?a1 ?a2 ?a3).mono ?_); (case a1 => exact blk_alloc HS.out _); (case a2 => exact blk_alloc HL.out _); (case a3 => exact HG.out); rintro e w1 ⟨rfl, hb⟩; have g0 : w1.cell? ⟨w.heap.size, 0, none⟩ = some (.int .i64 1) := (hb.cell (by simp [World.size_alloc])).trans (by go_simp); have g1 : w1.cell? ⟨w.heap.size, 1, none⟩ = some (.int .i64 p1) := (hb.cell (by simp [World.size_alloc])).trans (by go_simp); have g2 : w1.cell? ⟨w.heap.size, 2, none⟩ = some (.int .i64 p2) := (hb.cell (by simp [World.size_alloc])).trans (by go_simp); have g3 : w1.cell? ⟨w.heap.size, 3, none⟩ = some (.int .i64 p3) := (hb.cell (by simp [World.size_alloc])).trans (by go_simp); have l0 : w1.cell? ⟨lb, 0, none⟩ = some (.slice (some ⟨db, 0, none⟩) n n) := (hb.cell (by simp [World.size_alloc]; omega)).trans (by go_simp); have m1 : lb < w1.heap.size := (by have := hb.size; simp [World.size_alloc] at this; omega); have m0 : w.heap.size < w1.heap.size := (by have := hb.size; simp [World.size_alloc] at this; omega); have HB := Aside0.mk (below_step (by repeat (first | exact Below.refl _ _ | apply below_alloc)) hb : Below w.heap.size w w1); clear hb)
    go_region_held3 (fun w' => w'.cell? ⟨w.heap.size, 0, none⟩ = some (.int .i64 1) ∧ w'.cell? ⟨w.heap.size, 1, none⟩ = some (.int .i64 p1) ∧ w'.cell? ⟨w.heap.size, 2, none⟩ = some (.int .i64 p2) ∧ w'.cell? ⟨w.heap.size, 3, none⟩ = some (.int .i64 p3) ∧ w'.cell? ⟨lb, 0, none⟩ = some (.slice (some ⟨db, 0, none⟩) n n) ∧ lb < w'.heap.size ∧ w.heap.size < w'.heap.size ∧ Below w.heap.size w w') (first | exact ⟨g0, g1, g2, g3, l0, m1, m0, below_drew HB.out⟩ | exact ⟨q0, q1, q2, q3, q4, q5, q6, HB2.out⟩ | go_keep) (first | (go_at_call 22; (with_reducible refine (store_within.calls 1 p1 p2 p3 0 4 true _ HWI.out).mono ?_); rintro e w2 ⟨rfl, hb2⟩; have q0 : w2.cell? ⟨w.heap.size, 0, none⟩ = some (.int .i64 1) := (hb2.cell m0).trans g0; have q1 : w2.cell? ⟨w.heap.size, 1, none⟩ = some (.int .i64 p1) := (hb2.cell m0).trans g1; have q2 : w2.cell? ⟨w.heap.size, 2, none⟩ = some (.int .i64 p2) := (hb2.cell m0).trans g2; have q3 : w2.cell? ⟨w.heap.size, 3, none⟩ = some (.int .i64 p3) := (hb2.cell m0).trans g3; have q4 : w2.cell? ⟨lb, 0, none⟩ = some (.slice (some ⟨db, 0, none⟩) n n) := (hb2.cell m1).trans l0; have q5 := Nat.lt_of_lt_of_le m1 hb2.size; have q6 := Nat.lt_of_lt_of_le m0 hb2.size; have HB2 := Aside0.mk (below_step (below_drew HB.out) hb2)))
    go_wp2
    refine bodyPost_ret (v := .tuple #[.pointer (some ⟨lb, 0, none⟩), .int .i64 0]) (by simp [results, Try.results19, go_sem]) rfl ?_
    exact ⟨rfl, HB2.out⟩)
set_option maxHeartbeats 8000000 in
set_option maxRecDepth 100000 in
theorem store_Move.one (w : World) (sb lb cap : Nat) (cs : Array Value) (p1 p2 p3 by_ : Int)
    (hs : w.heap[sb]? = some (.cells #[.slice (some ⟨lb, 0, none⟩) 1 cap] 53 (0, 0))) (hl : w.heap[lb]? = some (.cells cs 59 (0, 0))) (hg : cs[3]? = some (.bool false))
    (h1 : p1 ≤ p3 + by_) (h2 : p3 + by_ ≤ p2) (h3 : -1000000 ≤ p1 ∧ p1 ≤ 1000000) (h4 : -1000000 ≤ p2 ∧ p2 ≤ 1000000) (h5 : -1000000 ≤ p3 ∧ p3 ≤ 1000000) :
    Calls Try.prog 9 #[.pointer (some ⟨sb, 0, none⟩), .agg #[.int .i64 1, .int .i64 p1, .int .i64 p2, .int .i64 p3], .int .i64 by_] w fun e w' => e = .returned (.tuple #[.agg #[.int .i64 1, .int .i64 p1, .int .i64 p2, .int .i64 (p3 + by_)], .int .i64 0]) ∧ Below w.heap.size w w' := by
  have n0 := blk_lt hs
  have n1 := blk_lt hl
  have hu24 := Try.underlying24
  have HS := Aside0.mk hs
  have HL := Aside0.mk hl
  have HG := Aside0.mk hg
  have b1 : decide (by_ < p1 - p3) = false := decide_eq_false (by omega)
  have b2 : decide (p2 - p3 < by_) = false := decide_eq_false (by omega)
  have s1 : IntKind.i64.wrap (p1 - p3) = p1 - p3 := IntWalk.i64_in _ (by omega)
  have s2 : IntKind.i64.wrap (p2 - p3) = p2 - p3 := IntWalk.i64_in _ (by omega)
  have s3 : IntKind.i64.wrap (p3 + by_) = p3 + by_ := IntWalk.i64_in _ (by omega)
  clear hs hl hg h1 h2 h3 h4 h5
  go_enter Try.func9, Try.ntmps9
  go_wp2_with (go_at_call 18; (with_reducible refine (store_fit.one _ sb lb cap cs p1 p2 p3 ?a1 ?a2 ?a3).mono ?_); (case a1 => exact blk_alloc (blk_alloc HS.out _) _); (case a2 => exact blk_alloc (blk_alloc HL.out _) _); (case a3 => exact HG.out); rintro e w1 ⟨rfl, hb⟩; have g0 : w1.cell? ⟨w.heap.size, 0, none⟩ = some (.int .i64 1) := (hb.cell (by simp [World.size_alloc]; omega)).trans (by go_simp); have g1 : w1.cell? ⟨w.heap.size, 1, none⟩ = some (.int .i64 p1) := (hb.cell (by simp [World.size_alloc]; omega)).trans (by go_simp); have g2 : w1.cell? ⟨w.heap.size, 2, none⟩ = some (.int .i64 p2) := (hb.cell (by simp [World.size_alloc]; omega)).trans (by go_simp); have g3 : w1.cell? ⟨w.heap.size, 3, none⟩ = some (.int .i64 p3) := (hb.cell (by simp [World.size_alloc]; omega)).trans (by go_simp); have z3 : w1.frozen? ⟨w.heap.size, 3, none⟩ = false := (hb.frozen (by simp [World.size_alloc]; omega)).trans (by go_simp); have HR := Aside0.mk ((hb.block (w.heap.size + 1) (by simp [World.size_alloc])).trans (store_second w _ _)); have r0 : w1.cell? ⟨w.heap.size + 1, 0, none⟩ = some (.int .i64 0) := (blk_cell HR.out 0).trans rfl; have y0 := blk_frozen HR.out 0; have r1 : w1.cell? ⟨w.heap.size + 1, 1, none⟩ = some (.int .i64 0) := (blk_cell HR.out 1).trans rfl; have y1 := blk_frozen HR.out 1; have r2 : w1.cell? ⟨w.heap.size + 1, 2, none⟩ = some (.int .i64 0) := (blk_cell HR.out 2).trans rfl; have y2 := blk_frozen HR.out 2; have r3 : w1.cell? ⟨w.heap.size + 1, 3, none⟩ = some (.int .i64 0) := (blk_cell HR.out 3).trans rfl; have y3 := blk_frozen HR.out 3; have m0 : w.heap.size + 1 < w1.heap.size := (by have := hb.size; simp [World.size_alloc] at this; omega); have HB := Aside0.mk (below_step (by repeat (first | exact Below.refl _ _ | apply below_alloc)) hb : Below w.heap.size w w1); clear hb)
  refine bodyPost_ret (results_ct rfl _ _ (w.heap.size + 1) 24 #[.int .i64 1, .int .i64 p1, .int .i64 p2, .int .i64 (p3 + by_)] (0, 0) _ rfl (blk_put (blk_put (blk_put (blk_put (blk_far HR.out (by simp) _) 0 _ rfl) 1 _ rfl) 2 _ rfl) 3 _ rfl) Try.underlying24 rfl (by kernel_rfl)) rfl ?_
  exact ⟨rfl, by repeat (first | exact HB.out | (refine below_set ?_ (by omega)))⟩
/-- the number that four bytes form, from the lowest on -/
def store_ldv (bd : Nat → Int) : Nat → Int
  | 0 => 0
  | i + 1 => bits BinOp.or IntKind.u32 (store_ldv bd i) (bd i % 4294967296 * 2 ^ (8 * i) % 4294967296)
set_option maxHeartbeats 8000000 in
set_option maxRecDepth 100000 in
theorem store_Load.num (w : World) (sb lb cap db tb n P : Nat) (cs : Array Value) (data : List Int) (set : List Bool) (p1 p2 : Int) (bd : Nat → Int)
    (hs : w.heap[sb]? = some (.cells #[.slice (some ⟨lb, 0, none⟩) 1 cap] 53 (0, 0))) (hl : w.heap[lb]? = some (.cells cs 59 (0, 0))) (hg : cs[3]? = some (.bool false)) (hd : cs[0]? = some (.slice (some ⟨db, 0, none⟩) n n)) (ht : cs[1]? = some (.slice (some ⟨tb, 0, none⟩) n n))
    (hdb : w.heap[db]? = some (.cells (nums .u8 data).toArray 5 (0, 0))) (htb : w.heap[tb]? = some (.cells (bools set).toArray 4 (0, 0)))
    (h1 : p1 ≤ (P : Int)) (h3 : (P : Int) + 4 ≤ p2) (h4 : (P : Int) + 4 ≤ n) (h5 : p2 ≤ 1000000) (h6 : n ≤ 1000000) (hbd : ∀ j, j < 4 → data[P + j]? = some (bd j)) (hbs : ∀ j, j < 4 → set[P + j]? = some true) :
    Calls Try.prog 11 #[.pointer (some ⟨sb, 0, none⟩), .agg #[.int .i64 1, .int .i64 p1, .int .i64 p2, .int .i64 P], .int .i64 4, .bool false] w fun e w' => e = .returned (.tuple #[.agg #[.int .u32 (store_ldv bd 4), .int .i64 0, .int .i64 0, .int .i64 0, .int .i64 0, .bool false], .int .i64 0]) ∧ Below w.heap.size w w' := by
  have n0 := blk_lt hs
  have n1 := blk_lt hl
  have n2 := blk_lt hdb
  have n3 := blk_lt htb
  have hu24 := Try.underlying24
  have hu26 := Try.underlying26
  have hu59 := Try.underlying59
  have hu56 := Try.underlying56
  have hu41 := Try.underlying41
  have hu54 := Try.underlying54
  have HS := Aside0.mk hs
  have HL := Aside0.mk hl
  have HG := Aside0.mk hg
  have HD := Aside0.mk hd
  have HT := Aside0.mk ht
  have HDB := Aside0.mk hdb
  have HTB := Aside0.mk htb
  have HBD := Aside0.mk hbd
  have HBS := Aside0.mk hbs
  have h2 : (0 : Int) ≤ (P : Int) := Int.natCast_nonneg _
  clear hs hl hg hd ht hdb htb hbd hbs
  go_enter Try.func11, Try.ntmps11
  go_wp2_with (go_at_call 19; (with_reducible refine (store_place.one _ sb lb cap db n cs p1 p2 P 4 false ?a1 ?a2 ?a3 ?a4 rfl h1 h2 h3 h4 h5 h6).mono ?_); (case a1 => exact blk_alloc (blk_alloc HS.out _) _); (case a2 => exact blk_alloc (blk_alloc HL.out _) _); (case a3 => exact HG.out); (case a4 => exact HD.out); rintro e w1 ⟨rfl, hb⟩; have HB0 := Aside0.mk hb; clear hb)
  go_loopg [12, 27] 4 (fun kq v12 v27 w' => ∃ (i : Nat), v27 = .int .i64 i ∧ v12 = .int .u32 (store_ldv bd i) ∧ Aside0 (kq + i = 4) ∧ i ≤ 4 ∧ Aside0 (Below ((w.alloc (.cells #[.int .i64 1, .int .i64 p1, .int .i64 p2, .int .i64 P] 24)).alloc (.cells #[.int .u32 0, .int .i64 0, .int .i64 0, .int .i64 0, .int .i64 0, .bool false] 26)).heap.size ((w.alloc (.cells #[.int .i64 1, .int .i64 p1, .int .i64 p2, .int .i64 P] 24)).alloc (.cells #[.int .u32 0, .int .i64 0, .int .i64 0, .int .i64 0, .int .i64 0, .bool false] 26)) w'))
  case atStart => exact ⟨0, rfl, rfl, ⟨rfl⟩, by omega, HB0⟩
  case round =>
    obtain ⟨i, rfl, rfl, HK, hi, HB⟩ := hrel
    have HLr := Aside0.mk (blk_below (blk_alloc (blk_alloc HL.out _) _) HB.out)
    have f0 : wr.cell? ⟨lb, 0, none⟩ = some (.slice (some ⟨db, 0, none⟩) n n) := (blk_cell HLr.out 0).trans HD.out
    have f1 : wr.cell? ⟨lb, 1, none⟩ = some (.slice (some ⟨tb, 0, none⟩) n n) := (blk_cell HLr.out 1).trans HT.out
    have f3 : wr.cell? ⟨w.heap.size, 3, none⟩ = some (.int .i64 P) := (HB.out.cell (by simp [World.size_alloc]; omega)).trans (by go_simp)
    by_cases hlt : i < 4
    · have ft : wr.cell? ⟨tb, P + i, none⟩ = some (.bool true) := (blk_cell (blk_below (blk_alloc (blk_alloc HTB.out _) _) HB.out) _).trans (by simp [bools, HBS.out i hlt])
      have fd : wr.cell? ⟨db, P + i, none⟩ = some (.int .u8 (bd i)) := (blk_cell (blk_below (blk_alloc (blk_alloc HDB.out _) _) HB.out) _).trans (by simp [nums, HBD.out i hlt])
      have q1 : (0 : Int) ≤ ((P + i : Nat) : Int) := Int.natCast_nonneg _
      have q2 : ((P + i : Nat) : Int) < (n : Int) := by omega
      have s1 : IntKind.i64.wrap ((P : Int) + (i : Int)) = ((P + i : Nat) : Int) := (IntWalk.i64_in _ (by omega)).trans (by omega)
      have s2 : IntKind.i64.wrap (8 * (i : Int)) = ((8 * i : Nat) : Int) := (IntWalk.i64_in _ (by omega)).trans (by omega)
      have s3 : IntKind.i64.wrap ((i : Int) + 1) = ((i + 1 : Nat) : Int) := (IntWalk.i64_in _ (by omega)).trans (by omega)
      have q3 : (0 : Int) ≤ ((8 * i : Nat) : Int) := Int.natCast_nonneg _
      go_wp2
      go_quiet (fail)
      go_wp2
      go_quiet (fail)
      go_wp2
      go_roundg (gk - 1)
      case measure => have := HK.out; omega
      case rel => exact ⟨i + 1, by go_num, rfl, ⟨by have := HK.out; omega⟩, by omega, ⟨by apply pw_below_drewN; exact HB.out⟩⟩
    · have hi4 : i = 4 := by omega
      subst hi4
      have HR := Aside0.mk (blk_below (store_second w _ _) HB.out)
      have r0 : wr.cell? ⟨w.heap.size + 1, 0, none⟩ = some (.int .u32 0) := (blk_cell HR.out 0).trans rfl
      have r1 : wr.cell? ⟨w.heap.size + 1, 1, none⟩ = some (.int .i64 0) := (blk_cell HR.out 1).trans rfl
      have r2 : wr.cell? ⟨w.heap.size + 1, 2, none⟩ = some (.int .i64 0) := (blk_cell HR.out 2).trans rfl
      have r3 : wr.cell? ⟨w.heap.size + 1, 3, none⟩ = some (.int .i64 0) := (blk_cell HR.out 3).trans rfl
      have r4 : wr.cell? ⟨w.heap.size + 1, 4, none⟩ = some (.int .i64 0) := (blk_cell HR.out 4).trans rfl
      have r5 : wr.cell? ⟨w.heap.size + 1, 5, none⟩ = some (.bool false) := (blk_cell HR.out 5).trans rfl
      have y0 := blk_frozen HR.out 0
      have y1 := blk_frozen HR.out 1
      have y2 := blk_frozen HR.out 2
      have y3 := blk_frozen HR.out 3
      have y4 := blk_frozen HR.out 4
      have y5 := blk_frozen HR.out 5
      go_wp2
      refine bodyPost_ret (results_ct rfl _ _ (w.heap.size + 1) 26 #[.int .u32 (store_ldv bd 4), .int .i64 0, .int .i64 0, .int .i64 0, .int .i64 0, .bool false] (0, 0) _ rfl (blk_put (blk_put (blk_put (blk_put (blk_put (blk_put HR.out 0 _ rfl) 1 _ rfl) 2 _ rfl) 3 _ rfl) 4 _ rfl) 5 _ rfl) Try.underlying26 rfl (by kernel_rfl)) rfl ?_
      have HBB := below_step (below_alloc (below_alloc (Below.refl w.heap.size w) _) _) HB.out
      exact ⟨rfl, by repeat (first | exact HBB | (refine below_set ?_ (by omega)))⟩
end Go.Proofs.Ytplafnaocgifoaa.St
