/- StoreR: functions of the program walked by hand, and what they come to. -/
import Derived.Test.YtplafnaocgifoaaProg
import Derived.Below
import Derived.Deep.Draws
import Derived.Deep.AppendLies
import Derived.Maps.AppendAt
import Derived.OwnWalk
import Derived.Laws.BytesArg
import Derived.Laws.MakeOwn
import Derived.Laws.OwnMore
import Derived.Deep.OwnRows
import Derived.Tactics
import Derived.Lib.ConvBytes
import Derived.Laws.Slices
import Derived.WalkKit
import Derived.KernelRfl
import Derived.RowKit3
import Derived.Deep.LoopGhost
import Derived.Deep.QuietTactic
import Derived.BigQuiet
import Derived.WideLaws
import Derived.Deep.DeepCutAuto
import Derived.Deep.CutBlock
import Derived.Deep.RegionHeld3
import Derived.Laws.Rows
import Derived.Lib.AppendStr
import Derived.ArgAppend
import Derived.Laws.IdiomCopy
import Derived.OrdersHeld
import Derived.Laws.BitsLemmas
import Derived.RowKit
import Derived.Test.YtplafnaocgifoaaWWords
import Derived.Test.YtplafnaocgifoaaWLast
import Derived.Test.YtplafnaocgifoaaWTab
import Derived.Test.YtplafnaocgifoaaWFour
import Derived.Test.YtplafnaocgifoaaWQPut
import Derived.Test.YtplafnaocgifoaaWApart
import Derived.Test.YtplafnaocgifoaaWArr
import Derived.Test.YtplafnaocgifoaaWZeros
import Derived.Test.YtplafnaocgifoaaWFoot
import Derived.Test.YtplafnaocgifoaaWKept
import Derived.Test.YtplafnaocgifoaaWShare
import Derived.Test.YtplafnaocgifoaaWN
import Derived.Test.YtplafnaocgifoaaWFootNe
import Derived.Test.YtplafnaocgifoaaWAt
import Derived.Test.YtplafnaocgifoaaWEqStruct
import Derived.Test.YtplafnaocgifoaaWRepsOne
import Derived.Test.YtplafnaocgifoaaWInv
import Derived.Test.YtplafnaocgifoaaWInvWords
import Derived.Test.YtplafnaocgifoaaWGuard
import Derived.Test.YtplafnaocgifoaaWNEv
import Derived.Test.YtplafnaocgifoaaWMore
import Derived.Test.YtplafnaocgifoaaSt0
import Derived.Test.YtplafnaocgifoaaStoreM
import Derived.Test.YtplafnaocgifoaaStoreL
import Derived.Deep.RegionLawGrows
import Derived.Deep.OwnRows
import Derived.Laws.OwnMore
import Derived.Outline
set_option linter.all false
namespace Go.Proofs.Ytplafnaocgifoaa.St
open Go.RowKit Go.Proofs.YtplafnaocgifoaaW.PrintWords Go.Proofs.YtplafnaocgifoaaW.PrintLast Go.Proofs.YtplafnaocgifoaaW.PrintMore
set_option linter.unusedVariables false
theorem store_size_set' (w : World) (a : Addr) (v : Value) : (w.setCell a v).heap.size = w.heap.size := by simp [World.setCell]
theorem store_kept_alloc (w : World) (o : Obj) : store_Kept w (w.alloc o) := fun _ _ _ a _ _ _ => blk_alloc a o
theorem store_kept_lb (w w4 : World) (lb : Nat) (cs : Array Value) (h : store_Kept w w4) (hl : w4.heap[lb]? = some (.cells cs 59 (0, 0))) (u0 u1 u2 : Value) : store_Kept w (((w4.setCell ⟨lb, 0, none⟩ u0).setCell ⟨lb, 1, none⟩ u1).setCell ⟨lb, 2, none⟩ u2) :=
  ((h.trans (store_Kept.set hl (.inl rfl) u0)).trans (store_Kept.set (blk_put hl 0 u0 rfl) (.inl rfl) u1)).trans (store_Kept.set (blk_put (blk_put hl 0 u0 rfl) 1 u1 rfl) (.inl rfl) u2)
theorem store_unset_end1 (w0 w : World) (sb lb cap n : Nat) (cs : Array Value) (hs : w.heap[sb]? = some (.cells #[.slice (some ⟨lb, 0, none⟩) 1 cap] 53 (0, 0))) (hl : w.heap[lb]? = some (.cells cs 59 (0, 0))) (hg : cs[3]? = some (.bool false)) (b1 : w0.heap.size ≤ sb) (b2 : w0.heap.size ≤ lb) (hB : Below w0.heap.size w0 w) :
    store_Ob w0 ((((((w.setCell ⟨lb, 0, none⟩ (.slice (some ⟨w.heap.size, 0, none⟩) n n)).setCell ⟨lb, 1, none⟩ (.slice (some ⟨w.heap.size + 1, 0, none⟩) n n)).setCell ⟨lb, 2, none⟩ (.map none)).alloc (.cells (madeCells #[.int .u8 0] n) 5)).alloc (.cells (madeCells #[.bool false] n) 4)).drew) sb lb cap (w.heap.size) (w.heap.size + 1) n none 0 (fun _ => z24) (List.replicate n 0) (List.replicate n false) ∧ store_Kept w ((((((w.setCell ⟨lb, 0, none⟩ (.slice (some ⟨w.heap.size, 0, none⟩) n n)).setCell ⟨lb, 1, none⟩ (.slice (some ⟨w.heap.size + 1, 0, none⟩) n n)).setCell ⟨lb, 2, none⟩ (.map none)).alloc (.cells (madeCells #[.int .u8 0] n) 5)).alloc (.cells (madeCells #[.bool false] n) 4)).drew) ∧ w.heap.size ≤ ((((((w.setCell ⟨lb, 0, none⟩ (.slice (some ⟨w.heap.size, 0, none⟩) n n)).setCell ⟨lb, 1, none⟩ (.slice (some ⟨w.heap.size + 1, 0, none⟩) n n)).setCell ⟨lb, 2, none⟩ (.map none)).alloc (.cells (madeCells #[.int .u8 0] n) 5)).alloc (.cells (madeCells #[.bool false] n) 4)).drew).heap.size := by
  have hz := (Array.getElem?_eq_some_iff.1 hg).1
  have hX := blk_put (blk_put (blk_put hl 0 (.slice (some ⟨w.heap.size, 0, none⟩) n n) rfl) 1 (.slice (some ⟨w.heap.size + 1, 0, none⟩) n n) rfl) 2 (.map none) rfl
  have hS := blk_far (blk_far (blk_far hs (p := ⟨lb, 0, none⟩) (blk_ne hs hl (by decide)) (.slice (some ⟨w.heap.size, 0, none⟩) n n)) (p := ⟨lb, 1, none⟩) (blk_ne hs hl (by decide)) (.slice (some ⟨w.heap.size + 1, 0, none⟩) n n)) (p := ⟨lb, 2, none⟩) (blk_ne hs hl (by decide)) (.map none)
  have hK := store_kept_lb w w lb cs (fun _ _ _ a _ _ _ => a) hl (.slice (some ⟨w.heap.size, 0, none⟩) n n) (.slice (some ⟨w.heap.size + 1, 0, none⟩) n n) (.map none)
  have hW := hB.size
  refine ⟨⟨blk_drew (blk_alloc (blk_alloc hS _) _), ⟨_, blk_drew (blk_alloc (blk_alloc hX _) _), ?_, ?_, ?_, ?_⟩, ?_, ?_, by simp, by simp, .inl ⟨rfl, rfl⟩, b1, b2, by omega, by omega, ?_⟩, ?_, ?_⟩
  · rw [Array.getElem?_setIfInBounds_ne (by decide), Array.getElem?_setIfInBounds_ne (by decide), Array.getElem?_setIfInBounds_self_of_lt (by omega)]
  · rw [Array.getElem?_setIfInBounds_ne (by decide), Array.getElem?_setIfInBounds_self_of_lt (by simp; omega)]
  · rw [Array.getElem?_setIfInBounds_self_of_lt (by simp; omega)]
  · rw [Array.getElem?_setIfInBounds_ne (by decide), Array.getElem?_setIfInBounds_ne (by decide), Array.getElem?_setIfInBounds_ne (by decide)]; exact hg
  · have e : madeCells #[.int .u8 0] n = (nums .u8 (List.replicate n 0)).toArray := by
      apply Array.ext'
      rw [toList_madeCells_one]; simp [nums]
    rw [← e]
    exact blk_drew (by have h := blk_alloc (blk_new (((w.setCell ⟨lb, 0, none⟩ (.slice (some ⟨w.heap.size, 0, none⟩) n n)).setCell ⟨lb, 1, none⟩ (.slice (some ⟨w.heap.size + 1, 0, none⟩) n n)).setCell ⟨lb, 2, none⟩ (.map none)) (.cells (madeCells #[.int .u8 0] n) 5)) (.cells (madeCells #[.bool false] n) 4); simp only [store_size_set'] at h; exact h)
  · have e : madeCells #[.bool false] n = (bools (List.replicate n false)).toArray := by
      apply Array.ext'
      rw [toList_madeCells_one]; simp [bools]
    rw [← e]
    exact blk_drew (by have h := store_second (((w.setCell ⟨lb, 0, none⟩ (.slice (some ⟨w.heap.size, 0, none⟩) n n)).setCell ⟨lb, 1, none⟩ (.slice (some ⟨w.heap.size + 1, 0, none⟩) n n)).setCell ⟨lb, 2, none⟩ (.map none)) (.cells (madeCells #[.int .u8 0] n) 5) (.cells (madeCells #[.bool false] n) 4); simp only [store_size_set'] at h; exact h)
  · exact below_drew (below_alloc (below_alloc (below_set (below_set (below_set hB b2) b2) b2) _) _)
  · exact hK.trans ((store_kept_alloc _ _).trans (store_kept_alloc _ _))
  · show w.heap.size ≤ (((((w.setCell ⟨lb, 0, none⟩ (.slice (some ⟨w.heap.size, 0, none⟩) n n)).setCell ⟨lb, 1, none⟩ (.slice (some ⟨w.heap.size + 1, 0, none⟩) n n)).setCell ⟨lb, 2, none⟩ (.map none)).alloc (.cells (madeCells #[.int .u8 0] n) 5)).alloc (.cells (madeCells #[.bool false] n) 4)).heap.size
    simp only [World.size_alloc, store_size_set']; omega
theorem store_unset_end2 (w0 w : World) (sb lb cap n : Nat) (cs : Array Value) (hs : w.heap[sb]? = some (.cells #[.slice (some ⟨lb, 0, none⟩) 1 cap] 53 (0, 0))) (hl : w.heap[lb]? = some (.cells cs 59 (0, 0))) (hg : cs[3]? = some (.bool false)) (b1 : w0.heap.size ≤ sb) (b2 : w0.heap.size ≤ lb) (hB : Below w0.heap.size w0 w) :
    store_Ob w0 ((((((w.setCell ⟨lb, 0, none⟩ (.slice (some ⟨w.heap.size + 1, 0, none⟩) n n)).setCell ⟨lb, 1, none⟩ (.slice (some ⟨w.heap.size, 0, none⟩) n n)).setCell ⟨lb, 2, none⟩ (.map none)).alloc (.cells (madeCells #[.bool false] n) 4)).alloc (.cells (madeCells #[.int .u8 0] n) 5)).drew) sb lb cap (w.heap.size + 1) (w.heap.size) n none 0 (fun _ => z24) (List.replicate n 0) (List.replicate n false) ∧ store_Kept w ((((((w.setCell ⟨lb, 0, none⟩ (.slice (some ⟨w.heap.size + 1, 0, none⟩) n n)).setCell ⟨lb, 1, none⟩ (.slice (some ⟨w.heap.size, 0, none⟩) n n)).setCell ⟨lb, 2, none⟩ (.map none)).alloc (.cells (madeCells #[.bool false] n) 4)).alloc (.cells (madeCells #[.int .u8 0] n) 5)).drew) ∧ w.heap.size ≤ ((((((w.setCell ⟨lb, 0, none⟩ (.slice (some ⟨w.heap.size + 1, 0, none⟩) n n)).setCell ⟨lb, 1, none⟩ (.slice (some ⟨w.heap.size, 0, none⟩) n n)).setCell ⟨lb, 2, none⟩ (.map none)).alloc (.cells (madeCells #[.bool false] n) 4)).alloc (.cells (madeCells #[.int .u8 0] n) 5)).drew).heap.size := by
  have hz := (Array.getElem?_eq_some_iff.1 hg).1
  have hX := blk_put (blk_put (blk_put hl 0 (.slice (some ⟨w.heap.size + 1, 0, none⟩) n n) rfl) 1 (.slice (some ⟨w.heap.size, 0, none⟩) n n) rfl) 2 (.map none) rfl
  have hS := blk_far (blk_far (blk_far hs (p := ⟨lb, 0, none⟩) (blk_ne hs hl (by decide)) (.slice (some ⟨w.heap.size + 1, 0, none⟩) n n)) (p := ⟨lb, 1, none⟩) (blk_ne hs hl (by decide)) (.slice (some ⟨w.heap.size, 0, none⟩) n n)) (p := ⟨lb, 2, none⟩) (blk_ne hs hl (by decide)) (.map none)
  have hK := store_kept_lb w w lb cs (fun _ _ _ a _ _ _ => a) hl (.slice (some ⟨w.heap.size + 1, 0, none⟩) n n) (.slice (some ⟨w.heap.size, 0, none⟩) n n) (.map none)
  have hW := hB.size
  refine ⟨⟨blk_drew (blk_alloc (blk_alloc hS _) _), ⟨_, blk_drew (blk_alloc (blk_alloc hX _) _), ?_, ?_, ?_, ?_⟩, ?_, ?_, by simp, by simp, .inl ⟨rfl, rfl⟩, b1, b2, by omega, by omega, ?_⟩, ?_, ?_⟩
  · rw [Array.getElem?_setIfInBounds_ne (by decide), Array.getElem?_setIfInBounds_ne (by decide), Array.getElem?_setIfInBounds_self_of_lt (by omega)]
  · rw [Array.getElem?_setIfInBounds_ne (by decide), Array.getElem?_setIfInBounds_self_of_lt (by simp; omega)]
  · rw [Array.getElem?_setIfInBounds_self_of_lt (by simp; omega)]
  · rw [Array.getElem?_setIfInBounds_ne (by decide), Array.getElem?_setIfInBounds_ne (by decide), Array.getElem?_setIfInBounds_ne (by decide)]; exact hg
  · have e : madeCells #[.int .u8 0] n = (nums .u8 (List.replicate n 0)).toArray := by
      apply Array.ext'
      rw [toList_madeCells_one]; simp [nums]
    rw [← e]
    exact blk_drew (by have h := store_second (((w.setCell ⟨lb, 0, none⟩ (.slice (some ⟨w.heap.size + 1, 0, none⟩) n n)).setCell ⟨lb, 1, none⟩ (.slice (some ⟨w.heap.size, 0, none⟩) n n)).setCell ⟨lb, 2, none⟩ (.map none)) (.cells (madeCells #[.bool false] n) 4) (.cells (madeCells #[.int .u8 0] n) 5); simp only [store_size_set'] at h; exact h)
  · have e : madeCells #[.bool false] n = (bools (List.replicate n false)).toArray := by
      apply Array.ext'
      rw [toList_madeCells_one]; simp [bools]
    rw [← e]
    exact blk_drew (by have h := blk_alloc (blk_new (((w.setCell ⟨lb, 0, none⟩ (.slice (some ⟨w.heap.size + 1, 0, none⟩) n n)).setCell ⟨lb, 1, none⟩ (.slice (some ⟨w.heap.size, 0, none⟩) n n)).setCell ⟨lb, 2, none⟩ (.map none)) (.cells (madeCells #[.bool false] n) 4)) (.cells (madeCells #[.int .u8 0] n) 5); simp only [store_size_set'] at h; exact h)
  · exact below_drew (below_alloc (below_alloc (below_set (below_set (below_set hB b2) b2) b2) _) _)
  · exact hK.trans ((store_kept_alloc _ _).trans (store_kept_alloc _ _))
  · show w.heap.size ≤ (((((w.setCell ⟨lb, 0, none⟩ (.slice (some ⟨w.heap.size + 1, 0, none⟩) n n)).setCell ⟨lb, 1, none⟩ (.slice (some ⟨w.heap.size, 0, none⟩) n n)).setCell ⟨lb, 2, none⟩ (.map none)).alloc (.cells (madeCells #[.bool false] n) 4)).alloc (.cells (madeCells #[.int .u8 0] n) 5)).heap.size
    simp only [World.size_alloc, store_size_set']; omega
set_option maxHeartbeats 8000000 in
set_option maxRecDepth 100000 in
theorem store_Unset_ob (w0 w : World) (sb lb cap db tb n m : Nat) (mp : Option Nat) (g : Int → S24) (data : List Int) (set : List Bool) (h : store_Ob w0 w sb lb cap db tb n mp m g data set) (hn : n ≤ 300) :
    Calls Try.prog 14 #[.pointer (some ⟨sb, 0, none⟩), .int .i64 1] w fun e w' => e = .returned (.int .i64 0) ∧ ∃ db' tb' : Nat, store_Ob w0 w' sb lb cap db' tb' n none 0 (fun _ => z24) (List.replicate n 0) (List.replicate n false) ∧ store_Kept w w' ∧ w.heap.size ≤ w'.heap.size := by
  have hu59 := Try.underlying59
  have hu56 := Try.underlying56
  have hu41 := Try.underlying41
  have hu54 := Try.underlying54
  have hu57 := Try.underlying57
  obtain ⟨cs, l1, l2, l3, l4, l5⟩ := h.l
  have HL := Aside0.mk l1
  have HG := Aside0.mk l5
  have H := Aside0.mk h
  have f0 : w.cell? ⟨lb, 0, none⟩ = some (.slice (some ⟨db, 0, none⟩) n n) := (blk_cell l1 0).trans l2
  have f0a : ∀ o, (w.alloc o).drew.cell? ⟨lb, 0, none⟩ = some (.slice (some ⟨db, 0, none⟩) n n) := fun o => (blk_cell (blk_alloc HL.out _) 0).trans l2
  have f1 : w.cell? ⟨lb, 1, none⟩ = some (.slice (some ⟨tb, 0, none⟩) n n) := (blk_cell l1 1).trans l3
  have f2 : w.cell? ⟨lb, 2, none⟩ = some (.map mp) := (blk_cell l1 2).trans l4
  have z0 := blk_frozen l1 0
  have z1 := blk_frozen l1 1
  have z2 := blk_frozen l1 2
  have n1 := blk_lt l1
  have hm5 := run_make_row' (P := Try.prog) 41 5 (.int .u8 0) 1 Try.underlying41 (by kernel_rfl) rfl .i64 .i64 n (by omega) (by omega)
  have hm4 := run_make_row' (P := Try.prog) 54 4 (.bool false) 1 Try.underlying54 (by kernel_rfl) rfl .i64 .i64 n (by omega) (by omega)
  clear h l1 l2 l3 l4 l5
  go_enter Try.func14, Try.ntmps14
  go_upto_region 4 with (go_at_call 21; (with_reducible refine (store_object_ob w0 _ sb lb cap db tb n m mp g data set H.out).mono ?_); rintro e w1 ⟨rfl, rfl⟩)
  go_region
  · go_wp2
    go_ret
    exact ⟨rfl, _, _, store_unset_end1 w0 _ sb lb cap n cs H.out.s HL.out HG.out H.out.bs H.out.bl H.out.below⟩
  · go_wp2
    go_ret
    exact ⟨rfl, _, _, store_unset_end2 w0 _ sb lb cap n cs H.out.s HL.out HG.out H.out.bs H.out.bl H.out.below⟩
set_option maxHeartbeats 8000000 in
set_option maxRecDepth 100000 in
theorem store_Drop_ob (w0 w : World) (sb lb cap db tb n m : Nat) (mp : Option Nat) (g : Int → S24) (data : List Int) (set : List Bool) (h : store_Ob w0 w sb lb cap db tb n mp m g data set) :
    Calls Try.prog 15 #[.pointer (some ⟨sb, 0, none⟩), .int .i64 1] w fun e w' => e = .returned (.int .i64 0) ∧ store_Gone w0 w' sb lb cap ∧ store_Kept w w' ∧ w.heap.size ≤ w'.heap.size := by
  have hu59 := Try.underlying59
  obtain ⟨cs, l1, l2, l3, l4, l5⟩ := h.l
  have HL := Aside0.mk l1
  have HG := Aside0.mk l5
  have H := Aside0.mk h
  have f0 : w.cell? ⟨lb, 0, none⟩ = some (.slice (some ⟨db, 0, none⟩) n n) := (blk_cell l1 0).trans l2
  have f1 : w.cell? ⟨lb, 1, none⟩ = some (.slice (some ⟨tb, 0, none⟩) n n) := (blk_cell l1 1).trans l3
  have f2 : w.cell? ⟨lb, 2, none⟩ = some (.map mp) := (blk_cell l1 2).trans l4
  have f3 : w.cell? ⟨lb, 3, none⟩ = some (.bool false) := (blk_cell l1 3).trans l5
  have z0 := blk_frozen l1 0
  have z1 := blk_frozen l1 1
  have z2 := blk_frozen l1 2
  have z3 := blk_frozen l1 3
  clear h l1 l2 l3 l4 l5
  go_enter Try.func15, Try.ntmps15
  go_wp2_with (go_at_call 21; (with_reducible refine (store_object_ob w0 _ sb lb cap db tb n m mp g data set H.out).mono ?_); rintro e w1 ⟨rfl, rfl⟩)
  go_ret
  refine ⟨rfl, ⟨?_, ⟨_, blk_put (blk_put (blk_put (blk_put HL.out 0 _ rfl) 1 _ rfl) 2 _ rfl) 3 _ rfl, ?_⟩, ?_⟩, ?_, ?_⟩
  · exact blk_far (blk_far (blk_far (blk_far H.out.s (p := ⟨lb, 0, none⟩) (blk_ne H.out.s HL.out (by decide)) _) (p := ⟨lb, 1, none⟩) (blk_ne H.out.s HL.out (by decide)) _) (p := ⟨lb, 2, none⟩) (blk_ne H.out.s HL.out (by decide)) _) (p := ⟨lb, 3, none⟩) (blk_ne H.out.s HL.out (by decide)) _
  · have hz := (Array.getElem?_eq_some_iff.1 HG.out).1
    rw [Array.getElem?_setIfInBounds_self_of_lt (by simp; omega)]
  · exact below_set (below_set (below_set (below_set H.out.below H.out.bl) H.out.bl) H.out.bl) H.out.bl
  · exact (store_kept_lb _ _ lb cs (fun _ _ _ a _ _ _ => a) HL.out _ _ _).trans (store_Kept.set (blk_put (blk_put (blk_put HL.out 0 _ rfl) 1 _ rfl) 2 _ rfl) (.inl rfl) _)
  · simp only [store_size_set']; exact Nat.le_refl _
end Go.Proofs.Ytplafnaocgifoaa.St
