/- StoreE: functions of the program walked by hand, and what they come to. -/
import Derived.Test.YtplafnaocgifoaaProg
import Derived.Below
import Derived.Deep.Draws
import Derived.Deep.AppendLies
import Derived.Maps.AppendAt
import Derived.OwnWalk
import Derived.Laws.BytesArg
import Derived.Laws.MakeOwn
import Derived.Laws.OwnMore
import Derived.Deep.OwnRows
import Derived.Tactics
import Derived.Lib.ConvBytes
import Derived.Laws.Slices
import Derived.WalkKit
import Derived.KernelRfl
import Derived.RowKit3
import Derived.Deep.LoopGhost
import Derived.Deep.QuietTactic
import Derived.BigQuiet
import Derived.WideLaws
import Derived.Deep.DeepCutAuto
import Derived.Deep.CutBlock
import Derived.Deep.RegionHeld3
import Derived.Laws.Rows
import Derived.Lib.AppendStr
import Derived.ArgAppend
import Derived.Laws.IdiomCopy
import Derived.OrdersHeld
import Derived.Laws.BitsLemmas
import Derived.RowKit
import Derived.Test.YtplafnaocgifoaaWWords
import Derived.Test.YtplafnaocgifoaaWLast
import Derived.Test.YtplafnaocgifoaaWTab
import Derived.Test.YtplafnaocgifoaaWFour
import Derived.Test.YtplafnaocgifoaaWQPut
import Derived.Test.YtplafnaocgifoaaWApart
import Derived.Test.YtplafnaocgifoaaWArr
import Derived.Test.YtplafnaocgifoaaWZeros
import Derived.Test.YtplafnaocgifoaaWFoot
import Derived.Test.YtplafnaocgifoaaWKept
import Derived.Test.YtplafnaocgifoaaWShare
import Derived.Test.YtplafnaocgifoaaWN
import Derived.Test.YtplafnaocgifoaaWFootNe
import Derived.Test.YtplafnaocgifoaaWAt
import Derived.Test.YtplafnaocgifoaaWEqStruct
import Derived.Test.YtplafnaocgifoaaWRepsOne
import Derived.Test.YtplafnaocgifoaaWInv
import Derived.Test.YtplafnaocgifoaaWInvWords
import Derived.Test.YtplafnaocgifoaaWGuard
import Derived.Test.YtplafnaocgifoaaWNEv
import Derived.Test.YtplafnaocgifoaaWMore
import Derived.Test.YtplafnaocgifoaaSt0
import Derived.Test.YtplafnaocgifoaaStoreD
import Derived.Outline
set_option linter.all false
namespace Go.Proofs.Ytplafnaocgifoaa.St
open Go.RowKit Go.Proofs.YtplafnaocgifoaaW.PrintWords Go.Proofs.YtplafnaocgifoaaW.PrintLast Go.Proofs.YtplafnaocgifoaaW.PrintMore
set_option linter.unusedVariables false
set_option maxHeartbeats 8000000 in
set_option maxRecDepth 100000 in
theorem store_Load_ptr (w0 w : World) (sb lb cap db tb n m P b : Nat) (g : Int → S24) (data : List Int) (set : List Bool) (p1 p2 : Int)
    (h : store_Ob w0 w sb lb cap db tb n (some b) m g data set)
    (h1 : p1 ≤ (P : Int)) (h3 : (P : Int) + 4 ≤ p2) (h4 : (P : Int) + 4 ≤ n) (h5 : p2 ≤ 1000000) (h6 : n ≤ 1000000) (hbs : ∀ j, j < 4 → set[P + j]? = some true) :
    Calls Try.prog 11 #[.pointer (some ⟨sb, 0, none⟩), .agg #[.int .i64 1, .int .i64 p1, .int .i64 p2, .int .i64 P], .int .i64 4, .bool true] w fun e w' => e = .returned (.tuple #[.agg #[.int .u32 0, .int .i64 (g P).f0, .int .i64 (g P).f1, .int .i64 (g P).f2, .int .i64 (g P).f3, .bool true], .int .i64 0]) ∧ Below w.heap.size w w' := by
  obtain ⟨cs, hl, hd, ht, hmp, hg⟩ := h.l
  have hs := h.s
  have hdb := h.d
  have htb := h.t
  have hbd : ∀ j, j < 4 → data[P + j]? = some (data.getD (P + j) 0) := fun j hj => by have hj2 : P + j < data.length := (by rw [h.dl]; omega); rw [List.getD_eq_getElem?_getD, List.getElem?_eq_getElem hj2]; rfl
  obtain ⟨bd, ebd⟩ : ∃ bd : Nat → Int, bd = fun j => data.getD (P + j) 0 := ⟨_, rfl⟩
  replace hbd : ∀ j, j < 4 → data[P + j]? = some (bd j) := by rw [ebd]; exact hbd
  clear ebd
  have H := Aside0.mk h
  have HMP := Aside0.mk hmp
  clear h hmp
  have n0 := blk_lt hs
  have n1 := blk_lt hl
  have n2 := blk_lt hdb
  have n3 := blk_lt htb
  have hu24 := Try.underlying24
  have hu26 := Try.underlying26
  have hu59 := Try.underlying59
  have hu56 := Try.underlying56
  have hu41 := Try.underlying41
  have hu54 := Try.underlying54
  have HS := Aside0.mk hs
  have HL := Aside0.mk hl
  have HG := Aside0.mk hg
  have HD := Aside0.mk hd
  have HT := Aside0.mk ht
  have HDB := Aside0.mk hdb
  have HTB := Aside0.mk htb
  have HBD := Aside0.mk hbd
  have HBS := Aside0.mk hbs
  have h2 : (0 : Int) ≤ (P : Int) := Int.natCast_nonneg _
  clear hs hl hg hd ht hdb htb hbd hbs
  go_enter Try.func11, Try.ntmps11
  go_wp2_with (go_at_call 19; (with_reducible refine (store_place.one _ sb lb cap db n cs p1 p2 P 4 true ?a1 ?a2 ?a3 ?a4 rfl h1 h2 h3 h4 h5 h6).mono ?_); (case a1 => exact blk_alloc (blk_alloc HS.out _) _); (case a2 => exact blk_alloc (blk_alloc HL.out _) _); (case a3 => exact HG.out); (case a4 => exact HD.out); rintro e w1 ⟨rfl, hb⟩; have HB0 := Aside0.mk hb; clear hb)
  go_loopg [12, 27] 4 (fun kq v12 v27 w' => ∃ (i : Nat), v27 = .int .i64 i ∧ v12 = .int .u32 (store_ldv bd i) ∧ Aside0 (kq + i = 4) ∧ i ≤ 4 ∧ Aside0 (Below ((w.alloc (.cells #[.int .i64 1, .int .i64 p1, .int .i64 p2, .int .i64 P] 24)).alloc (.cells #[.int .u32 0, .int .i64 0, .int .i64 0, .int .i64 0, .int .i64 0, .bool false] 26)).heap.size ((w.alloc (.cells #[.int .i64 1, .int .i64 p1, .int .i64 p2, .int .i64 P] 24)).alloc (.cells #[.int .u32 0, .int .i64 0, .int .i64 0, .int .i64 0, .int .i64 0, .bool false] 26)) w'))
  case atStart => exact ⟨0, rfl, rfl, ⟨rfl⟩, by omega, HB0⟩
  case round =>
    obtain ⟨i, rfl, rfl, HK, hi, HB⟩ := hrel
    have HLr := Aside0.mk (blk_below (blk_alloc (blk_alloc HL.out _) _) HB.out)
    have f0 : wr.cell? ⟨lb, 0, none⟩ = some (.slice (some ⟨db, 0, none⟩) n n) := (blk_cell HLr.out 0).trans HD.out
    have f1 : wr.cell? ⟨lb, 1, none⟩ = some (.slice (some ⟨tb, 0, none⟩) n n) := (blk_cell HLr.out 1).trans HT.out
    have f3 : wr.cell? ⟨w.heap.size, 3, none⟩ = some (.int .i64 P) := (HB.out.cell (by simp [World.size_alloc]; omega)).trans (by go_simp)
    by_cases hlt : i < 4
    · have ft : wr.cell? ⟨tb, P + i, none⟩ = some (.bool true) := (blk_cell (blk_below (blk_alloc (blk_alloc HTB.out _) _) HB.out) _).trans (by simp [bools, HBS.out i hlt])
      have fd : wr.cell? ⟨db, P + i, none⟩ = some (.int .u8 (bd i)) := (blk_cell (blk_below (blk_alloc (blk_alloc HDB.out _) _) HB.out) _).trans (by simp [nums, HBD.out i hlt])
      have q1 : (0 : Int) ≤ ((P + i : Nat) : Int) := Int.natCast_nonneg _
      have q2 : ((P + i : Nat) : Int) < (n : Int) := by omega
      have s1 : IntKind.i64.wrap ((P : Int) + (i : Int)) = ((P + i : Nat) : Int) := (IntWalk.i64_in _ (by omega)).trans (by omega)
      have s2 : IntKind.i64.wrap (8 * (i : Int)) = ((8 * i : Nat) : Int) := (IntWalk.i64_in _ (by omega)).trans (by omega)
      have s3 : IntKind.i64.wrap ((i : Int) + 1) = ((i + 1 : Nat) : Int) := (IntWalk.i64_in _ (by omega)).trans (by omega)
      have q3 : (0 : Int) ≤ ((8 * i : Nat) : Int) := Int.natCast_nonneg _
      go_wp2
      go_quiet (fail)
      go_wp2
      go_quiet (fail)
      go_wp2
      go_roundg (gk - 1)
      case measure => have := HK.out; omega
      case rel => exact ⟨i + 1, by go_num, rfl, ⟨by have := HK.out; omega⟩, by omega, ⟨by apply pw_below_drewN; exact HB.out⟩⟩
    · have hi4 : i = 4 := by omega
      subst hi4
      have HR := Aside0.mk (blk_below (store_second w _ _) HB.out)
      have r0 : wr.cell? ⟨w.heap.size + 1, 0, none⟩ = some (.int .u32 0) := (blk_cell HR.out 0).trans rfl
      have r1 : wr.cell? ⟨w.heap.size + 1, 1, none⟩ = some (.int .i64 0) := (blk_cell HR.out 1).trans rfl
      have r2 : wr.cell? ⟨w.heap.size + 1, 2, none⟩ = some (.int .i64 0) := (blk_cell HR.out 2).trans rfl
      have r3 : wr.cell? ⟨w.heap.size + 1, 3, none⟩ = some (.int .i64 0) := (blk_cell HR.out 3).trans rfl
      have r4 : wr.cell? ⟨w.heap.size + 1, 4, none⟩ = some (.int .i64 0) := (blk_cell HR.out 4).trans rfl
      have r5 : wr.cell? ⟨w.heap.size + 1, 5, none⟩ = some (.bool false) := (blk_cell HR.out 5).trans rfl
      have y0 := blk_frozen HR.out 0
      have y1 := blk_frozen HR.out 1
      have y2 := blk_frozen HR.out 2
      have y3 := blk_frozen HR.out 3
      have y4 := blk_frozen HR.out 4
      have y5 := blk_frozen HR.out 5
      have f2 : wr.cell? ⟨lb, 2, none⟩ = some (.map (some b)) := (blk_cell HLr.out 2).trans HMP.out
      obtain ⟨b', eb', _, D, hown, hmap, hat⟩ : ∃ b', some b = some b' ∧ w0.heap.size ≤ b' ∧ store_Map w b' m g := by
        rcases H.out.p with ⟨h, _⟩ | h
        · cases h
        · exact h
      injection eb' with eb'
      subst eb'
      have hlook : (Instr.lookup 57 (.map (some b)) (.int .i64 (P : Int)) false).run Try.prog wr.drew = .ok (.agg #[.int .i64 (g P).f0, .int .i64 (g P).f1, .int .i64 (g P).f2, .int .i64 (g P).f3]) wr.drew := by
        obtain ⟨es, clock, e1, e2⟩ := hown
        have hown2 : wr.drew.ownsMap Try.prog 3 store_rd b m D := ⟨es, clock, (blk_below (blk_alloc (blk_alloc e1 _) _) (below_drew HB.out)), e2⟩
        obtain ⟨v, ps, hrun, hv⟩ := hown2.lookup store_law Try.underlying57 (store_zero _) (store_rd_val z24) (Go.Maps.keyOf_int_mk Try.underlying3 (WalkArith.wf_i64 (n := (P : Int)) (by omega)))
        rw [hat] at hv
        rw [hrun, store_rd_inv hv]; rfl
      go_wp2
      go_big_region
      go_wp2
      refine bodyPost_ret (results_ct rfl _ _ (w.heap.size + 1) 26 #[.int .u32 0, .int .i64 (g P).f0, .int .i64 (g P).f1, .int .i64 (g P).f2, .int .i64 (g P).f3, .bool true] (0, 0) _ rfl (blk_drew (blk_put (blk_put (blk_put (blk_put (blk_put (blk_put HR.out 0 _ rfl) 1 _ rfl) 2 _ rfl) 3 _ rfl) 4 _ rfl) 5 _ rfl)) Try.underlying26 rfl (by kernel_rfl)) rfl ?_
      have HBB := below_step (below_alloc (below_alloc (Below.refl w.heap.size w) _) _) HB.out
      exact ⟨rfl, below_drew (by repeat (first | exact HBB | (refine below_set ?_ (by omega))))⟩
set_option maxHeartbeats 8000000 in
set_option maxRecDepth 100000 in
theorem store_Load_unset (w0 w : World) (sb lb cap db tb n m P : Nat) (mp : Option Nat) (g : Int → S24) (data : List Int) (set : List Bool) (p1 p2 : Int)
    (h : store_Ob w0 w sb lb cap db tb n mp m g data set)
    (h1 : p1 ≤ (P : Int)) (h3 : (P : Int) + 4 ≤ p2) (h4 : (P : Int) + 4 ≤ n) (h5 : p2 ≤ 1000000) (h6 : n ≤ 1000000) (hbs : set[P]? = some false) :
    Calls Try.prog 11 #[.pointer (some ⟨sb, 0, none⟩), .agg #[.int .i64 1, .int .i64 p1, .int .i64 p2, .int .i64 P], .int .i64 4, .bool false] w fun e w' => e = .returned (.tuple #[.agg #[.int .u32 0, .int .i64 0, .int .i64 0, .int .i64 0, .int .i64 0, .bool false], .int .i64 13]) ∧ Below w.heap.size w w' := by
  obtain ⟨cs, hl, hd, ht, hmp, hg⟩ := h.l
  have hs := h.s
  have hdb := h.d
  have htb := h.t
  clear h hmp
  have n0 := blk_lt hs
  have n1 := blk_lt hl
  have n2 := blk_lt hdb
  have n3 := blk_lt htb
  have hu24 := Try.underlying24
  have hu26 := Try.underlying26
  have hu59 := Try.underlying59
  have hu56 := Try.underlying56
  have hu41 := Try.underlying41
  have hu54 := Try.underlying54
  have HS := Aside0.mk hs
  have HL := Aside0.mk hl
  have HG := Aside0.mk hg
  have HD := Aside0.mk hd
  have HT := Aside0.mk ht
  have HDB := Aside0.mk hdb
  have HTB := Aside0.mk htb
  have HBS := Aside0.mk hbs
  have h2 : (0 : Int) ≤ (P : Int) := Int.natCast_nonneg _
  clear hs hl hg hd ht hdb htb hbs
  go_enter Try.func11, Try.ntmps11
  go_wp2_with (go_at_call 19; (with_reducible refine (store_place.one _ sb lb cap db n cs p1 p2 P 4 false ?a1 ?a2 ?a3 ?a4 rfl h1 h2 h3 h4 h5 h6).mono ?_); (case a1 => exact blk_alloc (blk_alloc HS.out _) _); (case a2 => exact blk_alloc (blk_alloc HL.out _) _); (case a3 => exact HG.out); (case a4 => exact HD.out); rintro e w1 ⟨rfl, hb⟩; have HB0 := Aside0.mk hb; clear hb)
  have HB := HB0
  have HLr := Aside0.mk (blk_below (blk_alloc (blk_alloc HL.out _) _) HB.out)
  have f0 : w1.cell? ⟨lb, 0, none⟩ = some (.slice (some ⟨db, 0, none⟩) n n) := (blk_cell HLr.out 0).trans HD.out
  have f1 : w1.cell? ⟨lb, 1, none⟩ = some (.slice (some ⟨tb, 0, none⟩) n n) := (blk_cell HLr.out 1).trans HT.out
  have f3 : w1.cell? ⟨w.heap.size, 3, none⟩ = some (.int .i64 P) := (HB.out.cell (by simp [World.size_alloc]; omega)).trans (by go_simp)
  have ft : w1.cell? ⟨tb, P, none⟩ = some (.bool false) := (blk_cell (blk_below (blk_alloc (blk_alloc HTB.out _) _) HB.out) _).trans (by simp [bools, HBS.out])
  have q1 : (0 : Int) ≤ (P : Int) := Int.natCast_nonneg _
  have q2 : (P : Int) < (n : Int) := by omega
  have s1 : IntKind.i64.wrap (P : Int) = (P : Int) := IntWalk.i64_in _ (by omega)
  have HR := Aside0.mk (blk_below (store_second w _ _) HB.out)
  have r0 : w1.cell? ⟨w.heap.size + 1, 0, none⟩ = some (.int .u32 0) := (blk_cell HR.out 0).trans rfl
  have r1 : w1.cell? ⟨w.heap.size + 1, 1, none⟩ = some (.int .i64 0) := (blk_cell HR.out 1).trans rfl
  have r2 : w1.cell? ⟨w.heap.size + 1, 2, none⟩ = some (.int .i64 0) := (blk_cell HR.out 2).trans rfl
  have r3 : w1.cell? ⟨w.heap.size + 1, 3, none⟩ = some (.int .i64 0) := (blk_cell HR.out 3).trans rfl
  have r4 : w1.cell? ⟨w.heap.size + 1, 4, none⟩ = some (.int .i64 0) := (blk_cell HR.out 4).trans rfl
  have r5 : w1.cell? ⟨w.heap.size + 1, 5, none⟩ = some (.bool false) := (blk_cell HR.out 5).trans rfl
  have y0 := blk_frozen HR.out 0
  have y1 := blk_frozen HR.out 1
  have y2 := blk_frozen HR.out 2
  have y3 := blk_frozen HR.out 3
  have y4 := blk_frozen HR.out 4
  have y5 := blk_frozen HR.out 5
  refine wp_loop_rounds 1 ?_
  rw [rounds_succ]
  go_wp2
  go_quiet (fail)
  go_wp2
  refine bodyPost_ret (results_ct rfl _ _ (w.heap.size + 1) 26 #[.int .u32 0, .int .i64 0, .int .i64 0, .int .i64 0, .int .i64 0, .bool false] (0, 0) _ rfl (blk_put (blk_put (blk_put (blk_put (blk_put (blk_put (blk_drewN HR.out _) 0 _ rfl) 1 _ rfl) 2 _ rfl) 3 _ rfl) 4 _ rfl) 5 _ rfl) Try.underlying26 rfl (by kernel_rfl)) rfl ?_
  have HBB := below_step (below_alloc (below_alloc (Below.refl w.heap.size w) _) _) HB.out
  have HBC := pw_below_drewN HBB nq
  exact ⟨rfl, by repeat (first | exact HBC | (refine below_set ?_ (by omega)))⟩
end Go.Proofs.Ytplafnaocgifoaa.St
