/- FlowU: functions of the program walked by hand, and what they come to. -/
import Derived.Test.YtppanpboejpmjaaProg
import Derived.Below
import Derived.Deep.Draws
import Derived.Deep.AppendLies
import Derived.Maps.AppendAt
import Derived.OwnWalk
import Derived.Laws.BytesArg
import Derived.Laws.MakeOwn
import Derived.Laws.OwnMore
import Derived.Deep.OwnRows
import Derived.Tactics
import Derived.Lib.ConvBytes
import Derived.Laws.Slices
import Derived.WalkKit
import Derived.KernelRfl
import Derived.RowKit3
import Derived.Deep.LoopGhost
import Derived.Deep.QuietTactic
import Derived.BigQuiet
import Derived.WideLaws
import Derived.Deep.DeepCutAuto
import Derived.Deep.CutBlock
import Derived.Deep.RegionHeld3
import Derived.Laws.Rows
import Derived.Lib.AppendStr
import Derived.ArgAppend
import Derived.Laws.IdiomCopy
import Derived.OrdersHeld
import Derived.Laws.BitsLemmas
import Derived.RowKit
import Derived.Shelf.SlicesE.DeleteFunc
import Derived.Test.YtppanpboejpmjaaWWords
import Derived.Test.YtppanpboejpmjaaWLast
import Derived.Test.YtppanpboejpmjaaWTab
import Derived.Test.YtppanpboejpmjaaWFour
import Derived.Test.YtppanpboejpmjaaWQPut
import Derived.Test.YtppanpboejpmjaaWApart
import Derived.Test.YtppanpboejpmjaaWArr
import Derived.Test.YtppanpboejpmjaaWZeros
import Derived.Test.YtppanpboejpmjaaWFoot
import Derived.Test.YtppanpboejpmjaaWKept
import Derived.Test.YtppanpboejpmjaaWShare
import Derived.Test.YtppanpboejpmjaaWN
import Derived.Test.YtppanpboejpmjaaWFootNe
import Derived.Test.YtppanpboejpmjaaWAt
import Derived.Test.YtppanpboejpmjaaWEqStruct
import Derived.Test.YtppanpboejpmjaaWRepsOne
import Derived.Test.YtppanpboejpmjaaWInv
import Derived.Test.YtppanpboejpmjaaWInvWords
import Derived.Test.YtppanpboejpmjaaWGuard
import Derived.Test.YtppanpboejpmjaaWNEv
import Derived.Test.YtppanpboejpmjaaWMore
import Derived.Test.YtppanpboejpmjaaTr0
import Derived.Test.YtppanpboejpmjaaFlowT
import Derived.Outline
set_option linter.all false
namespace Go.Proofs.Ytppanpboejpmjaa.Tr
open Go.RowKit Go.Proofs.YtppanpboejpmjaaW.PrintWords Go.Proofs.YtppanpboejpmjaaW.PrintLast Go.Proofs.YtppanpboejpmjaaW.PrintMore
set_option linter.unusedVariables false
def ref_Walked.f (k : Nat) (a0 : ByteArray) (a1 : Bool) (a2 a3 : Int) (l4 : List S76) (l5 : List S45) : Option (List Int × List Int × List (Int × Int)) :=
  if l5.length = 0 then some (List.replicate l5.length 0, [], []) else ref_into.f a0 a1 a2 a3 l4 l5 k (List.replicate l5.length 0) [] [] 0
theorem own_slice {w : World} {base e size n : Nat} {v : Value} {xs : List Value} (h : w.ownsRow base e size v n xs) : ∃ A c, v = .slice A n c := by
  obtain ⟨_, ⟨ev, h2⟩ | ⟨g, cap, cur, ev, _⟩⟩ := h
  · subst h2; exact ⟨_, _, ev⟩
  · exact ⟨_, _, ev⟩
theorem rf_start {w0 w : World} {wb sb n : Nat} (hs : w.heap[wb]? = some (.cells #[.slice (some ⟨sb, 0, none⟩) n n, .slice none 0 0, .slice none 0 0] 61 (0, 0))) (hd : w.heap[sb]? = some (.cells (madeCells #[.int .i64 0] n) 3 (0, 0))) (h1 : w0.heap.size ≤ wb) (h2 : w0.heap.size ≤ sb) (hB : Below w0.heap.size w0 w) : rf_St w0 w wb sb (List.replicate n 0) (.slice none 0 0) [] (.slice none 0 0) [] where
  s := by rw [List.length_replicate]; exact hs
  d := by
    have e : madeCells #[.int .i64 0] n = (nums .i64 (List.replicate n 0)).toArray := by
      apply Array.ext'
      rw [toList_madeCells_one]; simp [nums]
    rw [← e]; exact hd
  o := ⟨rfl, .inl ⟨rfl, rfl⟩⟩
  b := ⟨rfl, .inl ⟨rfl, rfl⟩⟩
  no := fun k hk => by cases hk
  gw := h1
  gs := h2
  below := hB
set_option maxHeartbeats 8000000 in
set_option maxRecDepth 100000 in
theorem ref_Walked.calls (k : Nat) (a0 : ByteArray) (a1 : Bool) (a2 a3 : Int) (A4 : Option Addr) (c4 : Nat) (l4 : List S76) (A5 : Option Addr) (c5 : Nat) (l5 : List S45) (r : List Int × List Int × List (Int × Int)) (w : World)
    (hr4 : Kd.C k76 w A4 l4.length l4) (hc4 : l4.length ≤ c4) (hr5 : Kd.C k45 w A5 l5.length l5) (hc5 : l5.length ≤ c5) (hn : l5.length ≤ 4000000000000) (h : ref_Walked.f k a0 a1 a2 a3 l4 l5 = some r) :
    Calls Try.prog 27 #[.agg #[.string a0, .bool a1, .int .i64 a2, .int .i64 a3, .slice A4 l4.length c4, .slice A5 l5.length c5]] w fun e w' => ∃ As ns cs vo vb, e = .returned (.agg #[.slice As ns cs, vo, vb]) ∧ w'.ownsRow w.heap.size 3 1 vo r.2.1.length (nums .i64 r.2.1) ∧ w'.ownsRow w.heap.size 52 2 vb r.2.2.length (r.2.2.flatMap fun x => [.int .i64 x.1, .int .i64 x.2]) ∧ Below w.heap.size w w' := by
  have hu61 := Try.underlying61
  have hu31 := Try.underlying31
  have hu46 := Try.underlying46
  have hm3 := run_make_row' (P := Try.prog) 46 3 (.int .i64 0) 8 Try.underlying46 (by kernel_rfl) rfl .i64 .i64 l5.length (by omega) (by omega)
  unfold ref_Walked.f at h
  have HR4 := Aside0.mk hr4
  have HR5 := Aside0.mk hr5
  have HC4 := Aside0.mk hc4
  have HC5 := Aside0.mk hc5
  clear hr4 hr5 hc4 hc5
  by_cases hz : l5.length = 0
  · rw [if_pos hz] at h
    obtain rfl := Option.some.inj h
    have b1 : decide (0 < (l5.length : Int)) = false := decide_eq_false (by omega)
    have b2 : decide (0 < l5.length) = false := decide_eq_false (by omega)
    clear hz h
    go_enter Try.func27, Try.ntmps27
    go_upto_region 4 with (fail)
    obtain ⟨w1, e1⟩ : ∃ w1, w1 = ((((w.alloc (.cells #[.string a0, .bool a1, .int .i64 a2, .int .i64 a3, .slice A4 l4.length c4, .slice A5 l5.length c5] 31)).alloc (.cells #[.slice none 0 0, .slice none 0 0, .slice none 0 0] 61)).alloc (.cells (madeCells #[.int .i64 0] l5.length) 3)).alloc (.cells #[.slice (some ⟨w.heap.size + 1 + 1, 0, none⟩) l5.length l5.length, .slice none 0 0, .slice none 0 0] 61)) := ⟨_, rfl⟩
    rw [← e1]
    have B1 := Aside0.mk (show w1.heap[w.heap.size]? = some (.cells #[.string a0, .bool a1, .int .i64 a2, .int .i64 a3, .slice A4 l4.length c4, .slice A5 l5.length c5] 31 (0, 0)) from by rw [e1]; exact blk_alloc (blk_alloc (blk_alloc (blk_new w _) _) _) _)
    have R1 := Aside0.mk (show w1.heap[w.heap.size + 1]? = some (.cells #[.slice none 0 0, .slice none 0 0, .slice none 0 0] 61 (0, 0)) from by
      rw [e1]
      have h := blk_new (w.alloc (.cells #[.string a0, .bool a1, .int .i64 a2, .int .i64 a3, .slice A4 l4.length c4, .slice A5 l5.length c5] 31)) (.cells #[.slice none 0 0, .slice none 0 0, .slice none 0 0] 61)
      rw [World.size_alloc] at h
      exact blk_alloc (blk_alloc h _) _)
    have S1 := Aside0.mk (show rf_St w w1 (w.heap.size + 1 + 1 + 1) (w.heap.size + 1 + 1) (List.replicate l5.length 0) (.slice none 0 0) [] (.slice none 0 0) [] from by
      refine rf_start ?_ ?_ (by omega) (by omega) ?_
      · rw [e1]
        have h := blk_new (((w.alloc (.cells #[.string a0, .bool a1, .int .i64 a2, .int .i64 a3, .slice A4 l4.length c4, .slice A5 l5.length c5] 31)).alloc (.cells #[.slice none 0 0, .slice none 0 0, .slice none 0 0] 61)).alloc (.cells (madeCells #[.int .i64 0] l5.length) 3)) (.cells #[.slice (some ⟨w.heap.size + 1 + 1, 0, none⟩) l5.length l5.length, .slice none 0 0, .slice none 0 0] 61)
        rw [World.size_alloc, World.size_alloc, World.size_alloc] at h
        exact h
      · rw [e1]
        have h := blk_new ((w.alloc (.cells #[.string a0, .bool a1, .int .i64 a2, .int .i64 a3, .slice A4 l4.length c4, .slice A5 l5.length c5] 31)).alloc (.cells #[.slice none 0 0, .slice none 0 0, .slice none 0 0] 61)) (.cells (madeCells #[.int .i64 0] l5.length) 3)
        rw [World.size_alloc, World.size_alloc] at h
        exact blk_alloc h _
      · rw [e1]; exact below_alloc (below_alloc (below_alloc (below_alloc (Below.refl _ _) _) _) _) _)
    have nb1 : w.heap.size + 1 + 1 + 1 < w1.heap.size := blk_lt S1.out.s
    clear e1 hm3
    have r0 : w1.cell? ⟨w.heap.size + 1, 0, none⟩ = some (.slice none 0 0) := (blk_cell R1.out 0).trans rfl
    have r1 : w1.cell? ⟨w.heap.size + 1, 1, none⟩ = some (.slice none 0 0) := (blk_cell R1.out 1).trans rfl
    have r2 : w1.cell? ⟨w.heap.size + 1, 2, none⟩ = some (.slice none 0 0) := (blk_cell R1.out 2).trans rfl
    have z0 := blk_frozen R1.out 0
    have z1 := blk_frozen R1.out 1
    have z2 := blk_frozen R1.out 2
    have s0 : w1.cell? ⟨w.heap.size + 1 + 1 + 1, 0, none⟩ = some (.slice (some ⟨w.heap.size + 1 + 1, 0, none⟩) l5.length l5.length) := (blk_cell S1.out.s 0).trans (by first | rfl | (rw [List.length_replicate]; rfl) | simp)
    have s1 : w1.cell? ⟨w.heap.size + 1 + 1 + 1, 1, none⟩ = some (.slice none 0 0) := (blk_cell S1.out.s 1).trans rfl
    have s2 : w1.cell? ⟨w.heap.size + 1 + 1 + 1, 2, none⟩ = some (.slice none 0 0) := (blk_cell S1.out.s 2).trans rfl
    go_wp2
    refine bodyPost_ret (results_single (r := .cell 2 61) rfl (.cell (w.heap.size + 1) 61 #[.slice (some ⟨w.heap.size + 1 + 1, 0, none⟩) l5.length l5.length, (.slice none 0 0), (.slice none 0 0)] (0, 0) _ rfl (blk_put (blk_put (blk_put R1.out 0 _ rfl) 1 _ rfl) 2 _ rfl) Try.underlying61 rfl (by kernel_rfl) .nil)) rfl ?_
    have hg : ∀ u0 u1 u2 : Value, w1.grownBy (((w1.setCell ⟨w.heap.size + 1, 0, none⟩ u0).setCell ⟨w.heap.size + 1, 1, none⟩ u1).setCell ⟨w.heap.size + 1, 2, none⟩ u2) (some (w.heap.size + 1)) := fun u0 u1 u2 => World.grownBy.trans (World.grownBy.trans (grown_set w1 _ 0 u0) (grown_set _ _ 1 u1)) (grown_set _ _ 2 u2)
    exact ⟨_, _, _, _, _, rfl, own_other S1.out.o (hg _ _ _) (own_ne_type S1.out.o R1.out (by decide)), own_other S1.out.b (hg _ _ _) (own_ne_type S1.out.b R1.out (by decide)), below_set (below_set (below_set S1.out.below (by omega)) (by omega)) (by omega)⟩
  · rw [if_neg hz] at h
    have b1 : decide (0 < (l5.length : Int)) = true := decide_eq_true (by omega)
    have b2 : decide (0 < l5.length) = true := decide_eq_true (by omega)
    have HI := Aside0.mk h
    clear hz h
    go_enter Try.func27, Try.ntmps27
    go_upto_region 3 with (fail)
    obtain ⟨w1, e1⟩ : ∃ w1, w1 = ((((w.alloc (.cells #[.string a0, .bool a1, .int .i64 a2, .int .i64 a3, .slice A4 l4.length c4, .slice A5 l5.length c5] 31)).alloc (.cells #[.slice none 0 0, .slice none 0 0, .slice none 0 0] 61)).alloc (.cells (madeCells #[.int .i64 0] l5.length) 3)).alloc (.cells #[.slice (some ⟨w.heap.size + 1 + 1, 0, none⟩) l5.length l5.length, .slice none 0 0, .slice none 0 0] 61)) := ⟨_, rfl⟩
    rw [← e1]
    have B1 := Aside0.mk (show w1.heap[w.heap.size]? = some (.cells #[.string a0, .bool a1, .int .i64 a2, .int .i64 a3, .slice A4 l4.length c4, .slice A5 l5.length c5] 31 (0, 0)) from by rw [e1]; exact blk_alloc (blk_alloc (blk_alloc (blk_new w _) _) _) _)
    have R1 := Aside0.mk (show w1.heap[w.heap.size + 1]? = some (.cells #[.slice none 0 0, .slice none 0 0, .slice none 0 0] 61 (0, 0)) from by
      rw [e1]
      have h := blk_new (w.alloc (.cells #[.string a0, .bool a1, .int .i64 a2, .int .i64 a3, .slice A4 l4.length c4, .slice A5 l5.length c5] 31)) (.cells #[.slice none 0 0, .slice none 0 0, .slice none 0 0] 61)
      rw [World.size_alloc] at h
      exact blk_alloc (blk_alloc h _) _)
    have S1 := Aside0.mk (show rf_St w w1 (w.heap.size + 1 + 1 + 1) (w.heap.size + 1 + 1) (List.replicate l5.length 0) (.slice none 0 0) [] (.slice none 0 0) [] from by
      refine rf_start ?_ ?_ (by omega) (by omega) ?_
      · rw [e1]
        have h := blk_new (((w.alloc (.cells #[.string a0, .bool a1, .int .i64 a2, .int .i64 a3, .slice A4 l4.length c4, .slice A5 l5.length c5] 31)).alloc (.cells #[.slice none 0 0, .slice none 0 0, .slice none 0 0] 61)).alloc (.cells (madeCells #[.int .i64 0] l5.length) 3)) (.cells #[.slice (some ⟨w.heap.size + 1 + 1, 0, none⟩) l5.length l5.length, .slice none 0 0, .slice none 0 0] 61)
        rw [World.size_alloc, World.size_alloc, World.size_alloc] at h
        exact h
      · rw [e1]
        have h := blk_new ((w.alloc (.cells #[.string a0, .bool a1, .int .i64 a2, .int .i64 a3, .slice A4 l4.length c4, .slice A5 l5.length c5] 31)).alloc (.cells #[.slice none 0 0, .slice none 0 0, .slice none 0 0] 61)) (.cells (madeCells #[.int .i64 0] l5.length) 3)
        rw [World.size_alloc, World.size_alloc] at h
        exact blk_alloc h _
      · rw [e1]; exact below_alloc (below_alloc (below_alloc (below_alloc (Below.refl _ _) _) _) _) _)
    have nb1 : w.heap.size + 1 + 1 + 1 < w1.heap.size := blk_lt S1.out.s
    clear e1 hm3
    have b0 : w1.cell? ⟨w.heap.size, 0, none⟩ = some (.string a0) := (blk_cell B1.out 0).trans rfl
    have b3 : w1.cell? ⟨w.heap.size, 1, none⟩ = some (.bool a1) := (blk_cell B1.out 1).trans rfl
    have b4 : w1.cell? ⟨w.heap.size, 2, none⟩ = some (.int .i64 a2) := (blk_cell B1.out 2).trans rfl
    have b5 : w1.cell? ⟨w.heap.size, 3, none⟩ = some (.int .i64 a3) := (blk_cell B1.out 3).trans rfl
    have b6 : w1.cell? ⟨w.heap.size, 4, none⟩ = some (.slice A4 l4.length c4) := (blk_cell B1.out 4).trans rfl
    have b7 : w1.cell? ⟨w.heap.size, 5, none⟩ = some (.slice A5 l5.length c5) := (blk_cell B1.out 5).trans rfl
    go_upto_region 4 with (go_at_call 56; refine (ref_into.calls a0 a1 a2 a3 A4 c4 l4 A5 c5 l5 w HR4.out HC4.out HR5.out HC5.out _ _ k _ _ _ r 0 _ _ _ S1.out HI.out).mono ?_; rintro e w2 ⟨rfl, vo, vb, hS, hK, hgo, hgb⟩; have S2 := Aside0.mk hS; have R2 := Aside0.mk (show w2.heap[w.heap.size + 1]? = some (.cells #[.slice none 0 0, .slice none 0 0, .slice none 0 0] 61 (0, 0)) from (hK.2 _ (by omega) (by
      rintro (hx | hx | hx | hx)
      · omega
      · omega
      · cases hx
      · cases hx)).trans R1.out); obtain ⟨Ao, co, eo⟩ := own_slice hS.o; subst eo; obtain ⟨Ab, cb, eb⟩ := own_slice hS.b; subst eb; clear hS hK hgo hgb)
    have r0 : w2.cell? ⟨w.heap.size + 1, 0, none⟩ = some (.slice none 0 0) := (blk_cell R2.out 0).trans rfl
    have r1 : w2.cell? ⟨w.heap.size + 1, 1, none⟩ = some (.slice none 0 0) := (blk_cell R2.out 1).trans rfl
    have r2 : w2.cell? ⟨w.heap.size + 1, 2, none⟩ = some (.slice none 0 0) := (blk_cell R2.out 2).trans rfl
    have z0 := blk_frozen R2.out 0
    have z1 := blk_frozen R2.out 1
    have z2 := blk_frozen R2.out 2
    have s0 : w2.cell? ⟨w.heap.size + 1 + 1 + 1, 0, none⟩ = some (.slice (some ⟨w.heap.size + 1 + 1, 0, none⟩) r.1.length r.1.length) := (blk_cell S2.out.s 0).trans (by first | rfl | (rw [List.length_replicate]; rfl) | simp)
    have s1 : w2.cell? ⟨w.heap.size + 1 + 1 + 1, 1, none⟩ = some (.slice Ao r.2.1.length co) := (blk_cell S2.out.s 1).trans rfl
    have s2 : w2.cell? ⟨w.heap.size + 1 + 1 + 1, 2, none⟩ = some (.slice Ab r.2.2.length cb) := (blk_cell S2.out.s 2).trans rfl
    go_wp2
    refine bodyPost_ret (results_single (r := .cell 2 61) rfl (.cell (w.heap.size + 1) 61 #[.slice (some ⟨w.heap.size + 1 + 1, 0, none⟩) r.1.length r.1.length, (.slice Ao r.2.1.length co), (.slice Ab r.2.2.length cb)] (0, 0) _ rfl (blk_put (blk_put (blk_put R2.out 0 _ rfl) 1 _ rfl) 2 _ rfl) Try.underlying61 rfl (by kernel_rfl) .nil)) rfl ?_
    have hg : ∀ u0 u1 u2 : Value, w2.grownBy (((w2.setCell ⟨w.heap.size + 1, 0, none⟩ u0).setCell ⟨w.heap.size + 1, 1, none⟩ u1).setCell ⟨w.heap.size + 1, 2, none⟩ u2) (some (w.heap.size + 1)) := fun u0 u1 u2 => World.grownBy.trans (World.grownBy.trans (grown_set w2 _ 0 u0) (grown_set _ _ 1 u1)) (grown_set _ _ 2 u2)
    exact ⟨_, _, _, _, _, rfl, own_other S2.out.o (hg _ _ _) (own_ne_type S2.out.o R2.out (by decide)), own_other S2.out.b (hg _ _ _) (own_ne_type S2.out.b R2.out (by decide)), below_set (below_set (below_set S2.out.below (by omega)) (by omega)) (by omega)⟩
end Go.Proofs.Ytppanpboejpmjaa.Tr
