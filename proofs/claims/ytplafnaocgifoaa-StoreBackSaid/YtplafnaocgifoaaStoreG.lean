/- StoreG: functions of the program walked by hand, and what they come to. -/
import Derived.Test.YtplafnaocgifoaaProg
import Derived.Below
import Derived.Deep.Draws
import Derived.Deep.AppendLies
import Derived.Maps.AppendAt
import Derived.OwnWalk
import Derived.Laws.BytesArg
import Derived.Laws.MakeOwn
import Derived.Laws.OwnMore
import Derived.Deep.OwnRows
import Derived.Tactics
import Derived.Lib.ConvBytes
import Derived.Laws.Slices
import Derived.WalkKit
import Derived.KernelRfl
import Derived.RowKit3
import Derived.Deep.LoopGhost
import Derived.Deep.QuietTactic
import Derived.BigQuiet
import Derived.WideLaws
import Derived.Deep.DeepCutAuto
import Derived.Deep.CutBlock
import Derived.Deep.RegionHeld3
import Derived.Laws.Rows
import Derived.Lib.AppendStr
import Derived.ArgAppend
import Derived.Laws.IdiomCopy
import Derived.OrdersHeld
import Derived.Laws.BitsLemmas
import Derived.RowKit
import Derived.Test.YtplafnaocgifoaaWWords
import Derived.Test.YtplafnaocgifoaaWLast
import Derived.Test.YtplafnaocgifoaaWTab
import Derived.Test.YtplafnaocgifoaaWFour
import Derived.Test.YtplafnaocgifoaaWQPut
import Derived.Test.YtplafnaocgifoaaWApart
import Derived.Test.YtplafnaocgifoaaWArr
import Derived.Test.YtplafnaocgifoaaWZeros
import Derived.Test.YtplafnaocgifoaaWFoot
import Derived.Test.YtplafnaocgifoaaWKept
import Derived.Test.YtplafnaocgifoaaWShare
import Derived.Test.YtplafnaocgifoaaWN
import Derived.Test.YtplafnaocgifoaaWFootNe
import Derived.Test.YtplafnaocgifoaaWAt
import Derived.Test.YtplafnaocgifoaaWEqStruct
import Derived.Test.YtplafnaocgifoaaWRepsOne
import Derived.Test.YtplafnaocgifoaaWInv
import Derived.Test.YtplafnaocgifoaaWInvWords
import Derived.Test.YtplafnaocgifoaaWGuard
import Derived.Test.YtplafnaocgifoaaWNEv
import Derived.Test.YtplafnaocgifoaaWMore
import Derived.Test.YtplafnaocgifoaaSt0
import Derived.Test.YtplafnaocgifoaaStoreD
import Derived.Deep.RegionLawGrows
import Derived.Deep.OwnRows
import Derived.Laws.OwnMore
import Derived.Outline
set_option linter.all false
namespace Go.Proofs.Ytplafnaocgifoaa.St
open Go.RowKit Go.Proofs.YtplafnaocgifoaaW.PrintWords Go.Proofs.YtplafnaocgifoaaW.PrintLast Go.Proofs.YtplafnaocgifoaaW.PrintMore
set_option linter.unusedVariables false
theorem store_cells {w : World} {g : Nat} {cs : Array Value} {t : TypeId} (h : w.heap[g]? = some (.cells cs t (0, 0))) (l : List Value) (hl : l = cs.toList) : ∀ (j : Nat) (u : Value), l[j]? = some u → w.cell? ((⟨g, 0, none⟩ : Addr).add j) = some u := by
  intro j u hj
  subst hl
  rw [Array.getElem?_toList] at hj
  have e : (⟨g, 0, none⟩ : Addr).add j = ⟨g, j, none⟩ := by
    unfold Addr.add; split <;> simp_all
  rw [e, blk_cell h]; exact hj
theorem store_fourth (w : World) (o1 o2 o3 o4 : Obj) : ((((w.alloc o1).alloc o2).alloc o3).alloc o4).heap[w.heap.size + 1 + 1 + 1]? = some o4 := by
  have h := blk_new (((w.alloc o1).alloc o2).alloc o3) o4
  rw [World.size_alloc, World.size_alloc, World.size_alloc] at h
  exact h
theorem store_third (w : World) (o1 o2 o3 : Obj) : (((w.alloc o1).alloc o2).alloc o3).heap[w.heap.size + 1 + 1]? = some o3 := by
  have h := blk_new ((w.alloc o1).alloc o2) o3
  rw [World.size_alloc, World.size_alloc] at h
  exact h
theorem store_make_end (w0 w w4 : World) (sb n lb cap db tb : Nat) (cur : Array Value) (hsb : sb < w.heap.size) (hb : w0.heap.size ≤ sb) (hw : w0.heap.size ≤ w.heap.size) (hsame : ∀ k, k < w.heap.size → w4.heap[k]? = w.heap[k]?) (hB : Below w0.heap.size w0 w4)
    (hs : w4.heap[sb]? = some (.cells #[.slice none 0 0] 53 (0, 0))) (hr : w4.heap[w.heap.size]? = some (.cells #[.int .i64 0, .int .i64 0, .int .i64 0, .int .i64 0] 24 (0, 0)))
    (hd : w4.heap[db]? = some (.cells (madeCells #[.int .u8 0] n) 5 (0, 0))) (ht : w4.heap[tb]? = some (.cells (madeCells #[.bool false] n) 4 (0, 0))) (hk : w4.heap[lb]? = some (.cells cur 59 (0, 0)))
    (htk : cur.toList.take (1 * 4) = [.slice (some ⟨db, 0, none⟩) n n, .slice (some ⟨tb, 0, none⟩) n n, .map none, .bool false]) (h1 : w.heap.size ≤ db) (h2 : w.heap.size ≤ tb) (h3 : w.heap.size ≤ lb) (h4 : w.heap.size ≤ w4.heap.size) (u0 u1 u2 u3 : Value) :
    ∃ lb' cap' db' tb' : Nat, store_Ob w0 (((((w4.setCell ⟨sb, 0, none⟩ (.slice (some ⟨lb, 0, none⟩) 1 cap)).setCell ⟨w.heap.size, 0, none⟩ u0).setCell ⟨w.heap.size, 1, none⟩ u1).setCell ⟨w.heap.size, 2, none⟩ u2).setCell ⟨w.heap.size, 3, none⟩ u3) sb lb' cap' db' tb' n none 0 (fun _ => z24) (List.replicate n 0) (List.replicate n false) ∧ (∀ k, k < w.heap.size → k ≠ sb → (((((w4.setCell ⟨sb, 0, none⟩ (.slice (some ⟨lb, 0, none⟩) 1 cap)).setCell ⟨w.heap.size, 0, none⟩ u0).setCell ⟨w.heap.size, 1, none⟩ u1).setCell ⟨w.heap.size, 2, none⟩ u2).setCell ⟨w.heap.size, 3, none⟩ u3).heap[k]? = w.heap[k]?) ∧ w.heap.size ≤ (((((w4.setCell ⟨sb, 0, none⟩ (.slice (some ⟨lb, 0, none⟩) 1 cap)).setCell ⟨w.heap.size, 0, none⟩ u0).setCell ⟨w.heap.size, 1, none⟩ u1).setCell ⟨w.heap.size, 2, none⟩ u2).setCell ⟨w.heap.size, 3, none⟩ u3).heap.size := by
  have hc : ∀ j, j < 4 → cur[j]? = [.slice (some ⟨db, 0, none⟩) n n, .slice (some ⟨tb, 0, none⟩) n n, .map none, .bool false][j]? := by
    intro j hj
    rw [← htk, List.getElem?_take_of_lt (by omega), Array.getElem?_toList]
  have far : ∀ (k : Nat) (cs : Array Value) (t : TypeId), w4.heap[k]? = some (.cells cs t (0, 0)) → t ≠ 53 → t ≠ 24 → (((((w4.setCell ⟨sb, 0, none⟩ (.slice (some ⟨lb, 0, none⟩) 1 cap)).setCell ⟨w.heap.size, 0, none⟩ u0).setCell ⟨w.heap.size, 1, none⟩ u1).setCell ⟨w.heap.size, 2, none⟩ u2).setCell ⟨w.heap.size, 3, none⟩ u3).heap[k]? = some (.cells cs t (0, 0)) := by
    intro k cs t h e1 e2
    have n1 : k ≠ sb := blk_ne h hs e1
    have n2 : k ≠ w.heap.size := blk_ne h hr e2
    exact blk_far (blk_far (blk_far (blk_far (blk_far h n1 _) n2 _) n2 _) n2 _) n2 _
  have nsr : sb ≠ w.heap.size := by omega
  refine ⟨lb, cap, db, tb, ⟨?_, ⟨cur, far _ _ _ hk (by decide) (by decide), hc 0 (by decide), hc 1 (by decide), hc 2 (by decide), hc 3 (by decide)⟩, ?_, ?_, by simp, by simp, .inl ⟨rfl, rfl⟩, hb, by omega, by omega, by omega, ?_⟩, ?_, ?_⟩
  · exact blk_far (blk_far (blk_far (blk_far (blk_put hs 0 _ rfl) nsr _) nsr _) nsr _) nsr _
  · have := far _ _ _ hd (by decide) (by decide)
    rw [this]
    have e : madeCells #[.int .u8 0] n = (nums .u8 (List.replicate n 0)).toArray := by
      apply Array.ext'
      rw [toList_madeCells_one]; simp [nums]
    rw [e]
  · have := far _ _ _ ht (by decide) (by decide)
    rw [this]
    have e : madeCells #[.bool false] n = (bools (List.replicate n false)).toArray := by
      apply Array.ext'
      rw [toList_madeCells_one]; simp [bools]
    rw [e]
  · refine below_set (below_set (below_set (below_set (below_set hB hb) hw) hw) hw) hw
  · intro k hk1 hk2
    have n2 : k ≠ w.heap.size := by omega
    rw [Below.heap_setCell _ _ _ _ n2, Below.heap_setCell _ _ _ _ n2, Below.heap_setCell _ _ _ _ n2, Below.heap_setCell _ _ _ _ n2, Below.heap_setCell _ _ _ _ hk2]
    exact hsame k hk1
  · simpa [World.setCell] using h4
set_option maxHeartbeats 8000000 in
set_option maxRecDepth 100000 in
theorem store_Make_one (w0 w : World) (sb n : Nat) (hs : w.heap[sb]? = some (.cells #[.slice none 0 0] 53 (0, 0))) (hb : w0.heap.size ≤ sb) (hB : Below w0.heap.size w0 w) (h1 : 1 ≤ n) (h2 : n ≤ 300) :
    Calls Try.prog 8 #[.pointer (some ⟨sb, 0, none⟩), .int .i64 n] w fun e w' => e = .returned (.tuple #[.agg #[.int .i64 1, .int .i64 0, .int .i64 n, .int .i64 0], .int .i64 0]) ∧ ∃ lb cap db tb : Nat, store_Ob w0 w' sb lb cap db tb n none 0 (fun _ => z24) (List.replicate n 0) (List.replicate n false) ∧ (∀ k, k < w.heap.size → k ≠ sb → w'.heap[k]? = w.heap[k]?) ∧ w.heap.size ≤ w'.heap.size := by
  have hu24 := Try.underlying24
  have hu53 := Try.underlying53
  have hu51 := Try.underlying51
  have hu59 := Try.underlying59
  have f0 : w.cell? ⟨sb, 0, none⟩ = some (.slice none 0 0) := (blk_cell hs 0).trans rfl
  have z0 := blk_frozen hs 0
  have n0 := blk_lt hs
  have HS := Aside0.mk hs
  have HB := Aside0.mk hB
  have q1 : decide ((n : Int) < 1) = false := decide_eq_false (by omega)
  have q2 : decide (32768 < (n : Int)) = false := decide_eq_false (by omega)
  have hm5 := run_make_row' (P := Try.prog) 41 5 (.int .u8 0) 1 Try.underlying41 (by kernel_rfl) rfl .i64 .i64 n (by omega) (by omega)
  have hm4 := run_make_row' (P := Try.prog) 54 4 (.bool false) 1 Try.underlying54 (by kernel_rfl) rfl .i64 .i64 n (by omega) (by omega)
  clear hs hB
  go_enter Try.func8, Try.ntmps8
  obtain ⟨i0, hi0, hi1, hi2, hi3⟩ : ∃ i, Try.prog.info? 59 = some i ∧ i.zero = some (.agg #[.slice none 0 0, .slice none 0 0, .map none, .bool false]) ∧ i.size = 4 ∧ i.bytes = 64 := ⟨_, rfl, rfl, rfl, rfl⟩
  have f0a : ∀ o1, (w.alloc o1).drew.cell? ⟨sb, 0, none⟩ = some (.slice none 0 0) := fun o1 => (blk_cell (blk_alloc HS.out _) 0).trans rfl
  have f0b : ∀ o1 o2, ((w.alloc o1).alloc o2).drew.cell? ⟨sb, 0, none⟩ = some (.slice none 0 0) := fun o1 o2 => (blk_cell (blk_alloc (blk_alloc HS.out _) _) 0).trans rfl
  have f0c : ∀ o1 o2 o3, (((w.alloc o1).alloc o2).alloc o3).drew.cell? ⟨sb, 0, none⟩ = some (.slice none 0 0) := fun o1 o2 o3 => (blk_cell (blk_alloc (blk_alloc (blk_alloc HS.out _) _) _) 0).trans rfl
  have f0d : ∀ o1 o2 o3 o4, ((((w.alloc o1).alloc o2).alloc o3).alloc o4).drew.cell? ⟨sb, 0, none⟩ = some (.slice none 0 0) := fun o1 o2 o3 o4 => (blk_cell (blk_alloc (blk_alloc (blk_alloc (blk_alloc HS.out _) _) _) _) 0).trans rfl
  go_wp2
  go_region_law (first | (refine step_append_grows rfl (.tmp 30) (.tmp 37) 51 rfl 59 i0 _ 4 _ Try.underlying51 hi0 hi1 hi2 rfl rfl (by decide) none 0 0 [] rfl (fun _ => ⟨rfl, rfl⟩) rfl (fun b hb => by cases hb) _ 1 1 [.slice (some ⟨w.heap.size + 1, 0, none⟩) n n, .slice (some ⟨w.heap.size + 1 + 1, 0, none⟩) n n, .map none, .bool false] rfl rfl ?news ?one (by decide) (by decide) ?sz ?_; (case news => exact fun j u h => store_cells (store_fourth w _ _ _ _) _ rfl j u h); (case one => intro u hu; simp at hu; rcases hu with rfl | rfl | rfl | rfl <;> rfl); (case sz => rw [hi3]; decide); intro v' w4 hown hgrow; obtain ⟨hl4, ⟨_, h04⟩ | ⟨lb, cap, cur, rfl, hge, hblk, hcap, hcap2, hcs, htake⟩⟩ := hown; (exact absurd h04 (by decide)); have GS0 : w4.heap[sb]? = some (.cells #[.slice none 0 0] 53 (0, 0)) := ((hgrow.block sb (by first | (simp [World.size_alloc]; done) | (simp [World.size_alloc]; omega)) (by simp)).trans (blk_alloc (blk_alloc (blk_alloc (blk_alloc HS.out _) _) _) _)); have g0 : w4.cell? ⟨sb, 0, none⟩ = some (.slice none 0 0) := ((blk_cell GS0 0).trans rfl); have y0 := blk_frozen GS0 0; have GS := Aside0.mk GS0; clear GS0; have HR := Aside0.mk (show w4.heap[w.heap.size]? = some (.cells #[.int .i64 0, .int .i64 0, .int .i64 0, .int .i64 0] 24 (0, 0)) from ((hgrow.block w.heap.size (by first | (simp [World.size_alloc]; done) | (simp [World.size_alloc]; omega)) (by simp)).trans (blk_alloc (blk_alloc (blk_alloc (blk_new w _) _) _) _))); have H5 := Aside0.mk (show w4.heap[w.heap.size + 1]? = some (.cells (madeCells #[.int .u8 0] n) 5 (0, 0)) from ((hgrow.block (w.heap.size + 1) (by first | (simp [World.size_alloc]; done) | (simp [World.size_alloc]; omega)) (by simp)).trans (blk_alloc (blk_alloc (store_second w _ _) _) _))); have H4 := Aside0.mk (show w4.heap[w.heap.size + 1 + 1]? = some (.cells (madeCells #[.bool false] n) 4 (0, 0)) from ((hgrow.block (w.heap.size + 1 + 1) (by first | (simp [World.size_alloc]; done) | (simp [World.size_alloc]; omega)) (by simp)).trans (blk_alloc (store_third w _ _ _) _))); have HLT : w.heap.size + 1 + 1 + 1 + 1 ≤ w4.heap.size := (by have := hgrow.size; simp [World.size_alloc] at this; omega); have HX : Aside0 (∃ db tb, w4.heap[db]? = some (.cells (madeCells #[.int .u8 0] n) 5 (0, 0)) ∧ w4.heap[tb]? = some (.cells (madeCells #[.bool false] n) 4 (0, 0)) ∧ cur.toList.take (1 * 4) = [.slice (some ⟨db, 0, none⟩) n n, .slice (some ⟨tb, 0, none⟩) n n, .map none, .bool false] ∧ w.heap.size ≤ db ∧ w.heap.size ≤ tb) := (⟨⟨w.heap.size + 1, w.heap.size + 1 + 1, H5.out, H4.out, (by simpa using htake), by omega, by omega⟩⟩); have HGE : w.heap.size ≤ lb := (by simp [World.size_alloc] at hge; omega); clear H5 H4; have HG := Aside0.mk hgrow; have HK := Aside0.mk hblk; have HT := Aside0.mk htake; clear hgrow hblk htake hcs hcap hcap2 hge hl4) | (refine step_append_grows rfl (.tmp 30) (.tmp 37) 51 rfl 59 i0 _ 4 _ Try.underlying51 hi0 hi1 hi2 rfl rfl (by decide) none 0 0 [] rfl (fun _ => ⟨rfl, rfl⟩) rfl (fun b hb => by cases hb) _ 1 1 [.slice (some ⟨w.heap.size + 1 + 1, 0, none⟩) n n, .slice (some ⟨w.heap.size + 1, 0, none⟩) n n, .map none, .bool false] rfl rfl ?news ?one (by decide) (by decide) ?sz ?_; (case news => exact fun j u h => store_cells (store_fourth w _ _ _ _) _ rfl j u h); (case one => intro u hu; simp at hu; rcases hu with rfl | rfl | rfl | rfl <;> rfl); (case sz => rw [hi3]; decide); intro v' w4 hown hgrow; obtain ⟨hl4, ⟨_, h04⟩ | ⟨lb, cap, cur, rfl, hge, hblk, hcap, hcap2, hcs, htake⟩⟩ := hown; (exact absurd h04 (by decide)); have GS0 : w4.heap[sb]? = some (.cells #[.slice none 0 0] 53 (0, 0)) := ((hgrow.block sb (by first | (simp [World.size_alloc]; done) | (simp [World.size_alloc]; omega)) (by simp)).trans (blk_alloc (blk_alloc (blk_alloc (blk_alloc HS.out _) _) _) _)); have g0 : w4.cell? ⟨sb, 0, none⟩ = some (.slice none 0 0) := ((blk_cell GS0 0).trans rfl); have y0 := blk_frozen GS0 0; have GS := Aside0.mk GS0; clear GS0; have HR := Aside0.mk (show w4.heap[w.heap.size]? = some (.cells #[.int .i64 0, .int .i64 0, .int .i64 0, .int .i64 0] 24 (0, 0)) from ((hgrow.block w.heap.size (by first | (simp [World.size_alloc]; done) | (simp [World.size_alloc]; omega)) (by simp)).trans (blk_alloc (blk_alloc (blk_alloc (blk_new w _) _) _) _))); have H5 := Aside0.mk (show w4.heap[w.heap.size + 1 + 1]? = some (.cells (madeCells #[.int .u8 0] n) 5 (0, 0)) from ((hgrow.block (w.heap.size + 1 + 1) (by first | (simp [World.size_alloc]; done) | (simp [World.size_alloc]; omega)) (by simp)).trans (blk_alloc (store_third w _ _ _) _))); have H4 := Aside0.mk (show w4.heap[w.heap.size + 1]? = some (.cells (madeCells #[.bool false] n) 4 (0, 0)) from ((hgrow.block (w.heap.size + 1) (by first | (simp [World.size_alloc]; done) | (simp [World.size_alloc]; omega)) (by simp)).trans (blk_alloc (blk_alloc (store_second w _ _) _) _))); have HLT : w.heap.size + 1 + 1 + 1 + 1 ≤ w4.heap.size := (by have := hgrow.size; simp [World.size_alloc] at this; omega); have HX : Aside0 (∃ db tb, w4.heap[db]? = some (.cells (madeCells #[.int .u8 0] n) 5 (0, 0)) ∧ w4.heap[tb]? = some (.cells (madeCells #[.bool false] n) 4 (0, 0)) ∧ cur.toList.take (1 * 4) = [.slice (some ⟨db, 0, none⟩) n n, .slice (some ⟨tb, 0, none⟩) n n, .map none, .bool false] ∧ w.heap.size ≤ db ∧ w.heap.size ≤ tb) := (⟨⟨w.heap.size + 1 + 1, w.heap.size + 1, H5.out, H4.out, (by simpa using htake), by omega, by omega⟩⟩); have HGE : w.heap.size ≤ lb := (by simp [World.size_alloc] at hge; omega); clear H5 H4; have HG := Aside0.mk hgrow; have HK := Aside0.mk hblk; have HT := Aside0.mk htake; clear hgrow hblk htake hcs hcap hcap2 hge hl4))
  all_goals (
    obtain ⟨db, tb, hd, ht, htk, hdb, htb⟩ := HX.out
    have r0 : w4.cell? ⟨w.heap.size, 0, none⟩ = some (.int .i64 0) := (blk_cell HR.out 0).trans rfl
    have r1 : w4.cell? ⟨w.heap.size, 1, none⟩ = some (.int .i64 0) := (blk_cell HR.out 1).trans rfl
    have r2 : w4.cell? ⟨w.heap.size, 2, none⟩ = some (.int .i64 0) := (blk_cell HR.out 2).trans rfl
    have r3 : w4.cell? ⟨w.heap.size, 3, none⟩ = some (.int .i64 0) := (blk_cell HR.out 3).trans rfl
    have v0 := blk_frozen HR.out 0
    have v1 := blk_frozen HR.out 1
    have v2 := blk_frozen HR.out 2
    have v3 := blk_frozen HR.out 3
    have HD := Aside0.mk hd
    have HT5 := Aside0.mk ht
    have HTK := Aside0.mk htk
    clear hd ht htk
    have hsame : ∀ k, k < w.heap.size → w4.heap[k]? = w.heap[k]? := by
      intro k hk
      have h1 := HG.out.block k (by first | (simp [World.size_alloc]; done) | (simp [World.size_alloc]; omega)) (by simp)
      rw [h1]
      exact (below_drew (below_alloc (below_alloc (below_alloc (below_alloc (Below.refl w.heap.size w) _) _) _) _)).block k hk
    have hB4 : Below w0.heap.size w0 w4 := Below.grown (below_drew (below_alloc (below_alloc (below_alloc (below_alloc HB.out _) _) _) _)) HG.out (below_drew (below_alloc (below_alloc (below_alloc (below_alloc HB.out _) _) _) _)).size (by intro k e; cases e)
    clear f0a f0b f0c f0d hm5 hm4
    have END := Aside0.mk (store_make_end w0 w w4 sb n lb cap db tb cur n0 hb HB.out.size hsame hB4 GS.out HR.out HD.out HT5.out HK.out HTK.out hdb htb HGE (by omega) (.int .i64 1) (.int .i64 0) (.int .i64 (n : Int)) (.int .i64 0))
    clear hsame hB4
    go_wp2
    refine bodyPost_ret (results_ct rfl _ _ w.heap.size 24 #[.int .i64 1, .int .i64 0, .int .i64 n, .int .i64 0] (0, 0) _ rfl (blk_put (blk_put (blk_put (blk_put (blk_far HR.out (p := ⟨sb, 0, none⟩) (Nat.ne_of_gt n0) _) 0 _ rfl) 1 _ rfl) 2 _ rfl) 3 _ rfl) Try.underlying24 rfl (by kernel_rfl)) rfl ?_
    exact ⟨rfl, END.out⟩)
end Go.Proofs.Ytplafnaocgifoaa.St
