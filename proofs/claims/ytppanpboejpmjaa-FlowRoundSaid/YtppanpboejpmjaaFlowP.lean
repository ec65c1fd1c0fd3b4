/- FlowP: functions of the program walked by hand, and what they come to. -/
import Derived.Test.YtppanpboejpmjaaProg
import Derived.Below
import Derived.Deep.Draws
import Derived.Deep.AppendLies
import Derived.Maps.AppendAt
import Derived.OwnWalk
import Derived.Laws.BytesArg
import Derived.Laws.MakeOwn
import Derived.Laws.OwnMore
import Derived.Deep.OwnRows
import Derived.Tactics
import Derived.Lib.ConvBytes
import Derived.Laws.Slices
import Derived.WalkKit
import Derived.KernelRfl
import Derived.RowKit3
import Derived.Deep.LoopGhost
import Derived.Deep.QuietTactic
import Derived.BigQuiet
import Derived.WideLaws
import Derived.Deep.DeepCutAuto
import Derived.Deep.CutBlock
import Derived.Deep.RegionHeld3
import Derived.Laws.Rows
import Derived.Lib.AppendStr
import Derived.ArgAppend
import Derived.Laws.IdiomCopy
import Derived.OrdersHeld
import Derived.Laws.BitsLemmas
import Derived.RowKit
import Derived.Shelf.SlicesE.DeleteFunc
import Derived.Test.YtppanpboejpmjaaWWords
import Derived.Test.YtppanpboejpmjaaWLast
import Derived.Test.YtppanpboejpmjaaWTab
import Derived.Test.YtppanpboejpmjaaWFour
import Derived.Test.YtppanpboejpmjaaWQPut
import Derived.Test.YtppanpboejpmjaaWApart
import Derived.Test.YtppanpboejpmjaaWArr
import Derived.Test.YtppanpboejpmjaaWZeros
import Derived.Test.YtppanpboejpmjaaWFoot
import Derived.Test.YtppanpboejpmjaaWKept
import Derived.Test.YtppanpboejpmjaaWShare
import Derived.Test.YtppanpboejpmjaaWN
import Derived.Test.YtppanpboejpmjaaWFootNe
import Derived.Test.YtppanpboejpmjaaWAt
import Derived.Test.YtppanpboejpmjaaWEqStruct
import Derived.Test.YtppanpboejpmjaaWRepsOne
import Derived.Test.YtppanpboejpmjaaWInv
import Derived.Test.YtppanpboejpmjaaWInvWords
import Derived.Test.YtppanpboejpmjaaWGuard
import Derived.Test.YtppanpboejpmjaaWNEv
import Derived.Test.YtppanpboejpmjaaWMore
import Derived.Test.YtppanpboejpmjaaTr0
import Derived.Outline
set_option linter.all false
namespace Go.Proofs.Ytppanpboejpmjaa.Tr
open Go.RowKit Go.Proofs.YtppanpboejpmjaaW.PrintWords Go.Proofs.YtppanpboejpmjaaW.PrintLast Go.Proofs.YtppanpboejpmjaaW.PrintMore
set_option linter.unusedVariables false
/-- a Bool comes back; 'yes' tells P -/
def law_tells (P : Prop) (w : World) (e : Ending) (w' : World) : Prop := ∃ b : Bool, e = .returned (.bool b) ∧ (b = true → P) ∧ Below w.heap.size w w'
set_option maxHeartbeats 8000000 in
set_option maxRecDepth 100000 in
/-- an instruction that statements go through: its Args are few -/
theorem law13_ins.calls (x : S84) (A : Option Addr) (c : Nat) (w : World) (hr : Kd.C (Kd.int .i64) w A x.f9.length x.f9) (hc : x.f9.length ≤ c) :
    Calls Try.prog 75 #[.agg #[.int .i64 x.f0, .int .i64 x.f1, .int .i64 x.f2, .int .i64 x.f3, .int .i64 x.f4, .int .i64 x.f5, .int .i64 x.f6, .int .i64 x.f7, .int .u32 x.f8, .slice A x.f9.length c, .bool x.f10]] w (law_tells (x.f9.length ≤ 12) w) := by
  have hu84 := Try.underlying84
  have hu46 := Try.underlying46
  have HR := Aside0.mk hr
  have hmax : x.f9.length ≤ 9223372036854775807 := hr.2.1
  have B1 := below_alloc (Below.refl w.heap.size w) (.cells #[.int .i64 x.f0, .int .i64 x.f1, .int .i64 x.f2, .int .i64 x.f3, .int .i64 x.f4, .int .i64 x.f5, .int .i64 x.f6, .int .i64 x.f7, .int .u32 x.f8, .slice A x.f9.length c, .bool x.f10] 84)
  have X1 := blk_new w (.cells #[.int .i64 x.f0, .int .i64 x.f1, .int .i64 x.f2, .int .i64 x.f3, .int .i64 x.f4, .int .i64 x.f5, .int .i64 x.f6, .int .i64 x.f7, .int .u32 x.f8, .slice A x.f9.length c, .bool x.f10] 84)
  obtain ⟨L, hL⟩ : ∃ L : List Int, L = [x.f0, x.f1, x.f2, x.f3, x.f4, x.f5, x.f6, x.f7] := ⟨_, rfl⟩
  have hL8 : L.length = 8 := by rw [hL]; rfl
  have BB := Aside0.mk (below_alloc B1 (.cells (nums .i64 L).toArray 3))
  have BX := Aside0.mk (blk_alloc X1 (.cells (nums .i64 L).toArray 3))
  have BL := Aside0.mk (blk_new (w.alloc (.cells #[.int .i64 x.f0, .int .i64 x.f1, .int .i64 x.f2, .int .i64 x.f3, .int .i64 x.f4, .int .i64 x.f5, .int .i64 x.f6, .int .i64 x.f7, .int .u32 x.f8, .slice A x.f9.length c, .bool x.f10] 84)) (.cells (nums .i64 L).toArray 3))
  rw [World.size_alloc] at BL
  clear hr B1 X1
  go_enter Try.func75, Try.ntmps75
  go_upto_region 3 with (fail)
  have eL : (#[.int .i64 x.f0, .int .i64 x.f1, .int .i64 x.f2, .int .i64 x.f3, .int .i64 x.f4, .int .i64 x.f5, .int .i64 x.f6, .int .i64 x.f7] : Array Value) = (nums .i64 L).toArray := by rw [hL]; rfl
  rw [eL]
  clear eL hL
  generalize (w.alloc (.cells #[.int .i64 x.f0, .int .i64 x.f1, .int .i64 x.f2, .int .i64 x.f3, .int .i64 x.f4, .int .i64 x.f5, .int .i64 x.f6, .int .i64 x.f7, .int .u32 x.f8, .slice A x.f9.length c, .bool x.f10] 84)).alloc (.cells (nums .i64 L).toArray 3) = W at BB BX BL ⊢
  go_loopg [4] 8 (fun kq v4 w' => ∃ i : Nat, v4 = .int .i64 i ∧ Aside0 (kq + i = 8) ∧ i ≤ 8 ∧ Aside0 (w'.heap[w.heap.size]? = some (.cells #[.int .i64 x.f0, .int .i64 x.f1, .int .i64 x.f2, .int .i64 x.f3, .int .i64 x.f4, .int .i64 x.f5, .int .i64 x.f6, .int .i64 x.f7, .int .u32 x.f8, .slice A x.f9.length c, .bool x.f10] 84 (0, 0))) ∧ Aside0 (w'.heap[w.heap.size + 1]? = some (.cells (nums .i64 L).toArray 3 (0, 0))) ∧ Aside0 (Below w.heap.size w w'))
  case atStart => exact ⟨0, rfl, ⟨rfl⟩, Nat.zero_le _, BX, BL, BB⟩
  case round =>
    clear BX BL BB
    obtain ⟨i, rfl, HK, hi, BX, BL, BB⟩ := hrel
    by_cases hi8 : i < 8
    · have y0 : wr.cell? ⟨w.heap.size + 1, i, none⟩ = some (.int .i64 (L.getD i 0)) := by
        rw [blk_cell BL.out]
        have hl : i < L.length := by omega
        simp [nums, List.getElem?_eq_getElem hl, List.getD_eq_getElem?_getD]
      have p1 : (0 : Int) ≤ (i : Int) := Int.natCast_nonneg _
      have p2 : (i : Int) < 8 := by omega
      generalize L.getD i 0 = y at y0
      by_cases h1 : y > 1099511627776
      · have b1 : decide (y > 1099511627776) = true := decide_eq_true h1
        go_wp2
        go_ret
        exact ⟨false, rfl, fun h => by simp at h, BB.out⟩
      · have b1 : decide (y > 1099511627776) = false := decide_eq_false h1
        by_cases h2 : y < -1099511627776
        · have b2 : decide (y < -1099511627776) = true := decide_eq_true h2
          go_wp2
          go_ret
          exact ⟨false, rfl, fun h => by simp at h, BB.out⟩
        · have b2 : decide (y < -1099511627776) = false := decide_eq_false h2
          go_wp2
          go_roundg (gk - 1)
          case measure => have := HK.out; omega
          case rel => exact ⟨i + 1, by go_num, ⟨by have := HK.out; omega⟩, by omega, BX, BL, BB⟩
    · obtain rfl : i = 8 := by omega
      go_upto_region 8 with (fail)
      go_loopg [5] x.f9.length (fun kq v5 w' => ∃ i : Nat, v5 = .int .i64 i ∧ Aside0 (kq + i = x.f9.length) ∧ i ≤ x.f9.length ∧ Aside0 (w'.heap[w.heap.size]? = some (.cells #[.int .i64 x.f0, .int .i64 x.f1, .int .i64 x.f2, .int .i64 x.f3, .int .i64 x.f4, .int .i64 x.f5, .int .i64 x.f6, .int .i64 x.f7, .int .u32 x.f8, .slice A x.f9.length c, .bool x.f10] 84 (0, 0))) ∧ Aside0 (Below w.heap.size w w'))
      case atStart => exact ⟨0, rfl, ⟨rfl⟩, Nat.zero_le _, BX, BB⟩
      case round =>
        clear BX BL BB HK
        obtain ⟨i, rfl, HK, hi, BX, BB⟩ := hrel
        have f9 : wr.cell? ⟨w.heap.size, 9, none⟩ = some (.slice A x.f9.length c) := (blk_cell BX.out 9).trans rfl
        by_cases hi9 : i < x.f9.length
        · have p1 : (0 : Int) ≤ (i : Int) := Int.natCast_nonneg _
          have p2 : (i : Int) < (x.f9.length : Int) := by omega
          obtain ⟨ad, e9, y0⟩ := Kd.at_int HR.out (i : Int) p1 p2
          cases e9
          rw [Int.toNat_natCast] at y0
          replace y0 := (BB.out.cell (World.block_lt_of_cell? w _ y0)).trans y0
          generalize rd x.f9 (i : Int) = y at y0
          by_cases h1 : y > 1099511627776
          · have b1 : decide (y > 1099511627776) = true := decide_eq_true h1
            go_wp2
            go_ret
            exact ⟨false, rfl, fun h => by simp at h, BB.out⟩
          · have b1 : decide (y > 1099511627776) = false := decide_eq_false h1
            by_cases h2 : y < -1099511627776
            · have b2 : decide (y < -1099511627776) = true := decide_eq_true h2
              go_wp2
              go_ret
              exact ⟨false, rfl, fun h => by simp at h, BB.out⟩
            · have b2 : decide (y < -1099511627776) = false := decide_eq_false h2
              go_wp2
              go_roundg (gk - 1)
              case measure => have := HK.out; omega
              case rel => exact ⟨i + 1, by go_num, ⟨by have := HK.out; omega⟩, by omega, BX, BB⟩
        · obtain rfl : i = x.f9.length := by omega
          go_wp2
          go_ret
          exact ⟨decide ((x.f9.length : Int) ≤ 12), rfl, fun h => by have := of_decide_eq_true h; omega, BB.out⟩
def law_okB (b : S45) : Prop := b.f0.length ≤ 60 ∧ ∀ x ∈ b.f0, x.f9.length ≤ 12
def law_okP (l : List S45) : Prop := l.length ≤ 40 ∧ ∀ b ∈ l, law_okB b
theorem law_take {α : Type} {P : α → Prop} {l : List α} {i : Nat} {x : α} (hx : l[i]? = some x) (h : ∀ y ∈ l.take i, P y) (hp : P x) : ∀ y ∈ l.take (i + 1), P y := by
  intro y hy
  rw [List.take_succ, hx] at hy
  rcases List.mem_append.1 hy with h' | h'
  · exact h y h'
  · have : y = x := by simpa using h'
    rw [this]; exact hp
set_option maxHeartbeats 8000000 in
set_option maxRecDepth 100000 in
/-- a module that statements go through -/
theorem law13_Few.calls (A0 : Option Addr) (n0 c0 : Nat) (A1 : Option Addr) (n1 c1 : Nat) (A2 : Option Addr) (c2 : Nat) (l2 : List S31) (f3 : Int) (w : World) (hr : Kd.C k31 w A2 l2.length l2) (hc : l2.length ≤ c2) :
    Calls Try.prog 45 #[.agg #[.slice A0 n0 c0, .slice A1 n1 c1, .slice A2 l2.length c2, .int .i64 f3]] w (law_tells (l2.length ≤ 6 ∧ ∀ p ∈ l2, law_okP p.f5) w) := by
  have hu26 := Try.underlying26
  have hu24 := Try.underlying24
  have hu31 := Try.underlying31
  have hu29 := Try.underlying29
  have hu45 := Try.underlying45
  have hu43 := Try.underlying43
  have hu84 := Try.underlying84
  have HR := Aside0.mk hr
  have BB := Aside0.mk (below_alloc (Below.refl w.heap.size w) (.cells #[.slice A0 n0 c0, .slice A1 n1 c1, .slice A2 l2.length c2, .int .i64 f3] 26))
  have BX := Aside0.mk (blk_new w (.cells #[.slice A0 n0 c0, .slice A1 n1 c1, .slice A2 l2.length c2, .int .i64 f3] 26))
  clear hr
  go_enter Try.func45, Try.ntmps45
  go_upto_region 1 with (fail)
  generalize w.alloc (.cells #[.slice A0 n0 c0, .slice A1 n1 c1, .slice A2 l2.length c2, .int .i64 f3] 26) = W at BB BX ⊢
  have f0 : W.cell? ⟨w.heap.size, 0, none⟩ = some (.slice A0 n0 c0) := (blk_cell BX.out 0).trans rfl
  have f1 : W.cell? ⟨w.heap.size, 1, none⟩ = some (.slice A1 n1 c1) := (blk_cell BX.out 1).trans rfl
  have f2 : W.cell? ⟨w.heap.size, 2, none⟩ = some (.slice A2 l2.length c2) := (blk_cell BX.out 2).trans rfl
  by_cases h1 : (l2.length : Int) > 6
  · have b1 : decide ((l2.length : Int) > 6) = true := decide_eq_true h1
    go_wp2
    go_ret
    exact ⟨false, rfl, fun h => by simp at h, BB.out⟩
  · have b1 : decide ((l2.length : Int) > 6) = false := decide_eq_false h1
    by_cases h2 : (n0 : Int) > 20
    · have b2 : decide ((n0 : Int) > 20) = true := decide_eq_true h2
      go_wp2
      go_ret
      exact ⟨false, rfl, fun h => by simp at h, BB.out⟩
    · have b2 : decide ((n0 : Int) > 20) = false := decide_eq_false h2
      by_cases h3 : (n1 : Int) > 20
      · have b3 : decide ((n1 : Int) > 20) = true := decide_eq_true h3
        go_wp2
        go_ret
        exact ⟨false, rfl, fun h => by simp at h, BB.out⟩
      · have b3 : decide ((n1 : Int) > 20) = false := decide_eq_false h3
        have hl6 : l2.length ≤ 6 := by omega
        go_upto_region 4 with (fail)
        clear f0 f1 f2 b1 b2 b3 h1 h2 h3
        go_loopg [3] l2.length (fun kq v3 w' => ∃ i : Nat, v3 = .int .i64 i ∧ Aside0 (kq + i = l2.length) ∧ i ≤ l2.length ∧ Aside0 (w'.heap[w.heap.size]? = some (.cells #[.slice A0 n0 c0, .slice A1 n1 c1, .slice A2 l2.length c2, .int .i64 f3] 26 (0, 0))) ∧ Aside0 (Below w.heap.size w w') ∧ Aside0 (∀ p ∈ l2.take i, law_okP p.f5))
        case atStart => exact ⟨0, rfl, ⟨rfl⟩, Nat.zero_le _, BX, BB, ⟨fun p hp => by simp at hp⟩⟩
        case round =>
          clear BX BB
          obtain ⟨i, rfl, HK, hi, BX, BB, HP⟩ := hrel
          have f2 : wr.cell? ⟨w.heap.size, 2, none⟩ = some (.slice A2 l2.length c2) := (blk_cell BX.out 2).trans rfl
          by_cases hil : i < l2.length
          · have p1 : (0 : Int) ≤ (i : Int) := Int.natCast_nonneg _
            have p2 : (i : Int) < (l2.length : Int) := by omega
            obtain ⟨ad, A4, c4, A5, c5, e9, _, _, _, _, y4, y5, _, _, hl5, j5⟩ := at_T31 HR.out (i : Int) p1 p2
            cases e9
            rw [Int.toNat_natCast] at y4 y5
            have Y5 := Aside0.mk y5
            have HJ5 := Aside0.mk j5
            replace y4 := (BB.out.cell (World.block_lt_of_cell? w _ y4)).trans y4
            replace y5 := (BB.out.cell (World.block_lt_of_cell? w _ y5)).trans y5
            have hxi : l2[i]? = some (rd_T31 l2 (i : Int)) := by simp [rd_T31, List.getElem?_eq_getElem hil]
            have HXI := Aside0.mk hxi
            clear hxi j5
            generalize rd_T31 l2 (i : Int) = pr at *
            by_cases h1 : (pr.f5.length : Int) > 40
            · have b1 : decide ((pr.f5.length : Int) > 40) = true := decide_eq_true h1
              go_wp2
              go_ret
              exact ⟨false, rfl, fun h => by simp at h, BB.out⟩
            · have b1 : decide ((pr.f5.length : Int) > 40) = false := decide_eq_false h1
              by_cases h2 : (pr.f4.length : Int) > 20
              · have b2 : decide ((pr.f4.length : Int) > 20) = true := decide_eq_true h2
                go_wp2
                go_ret
                exact ⟨false, rfl, fun h => by simp at h, BB.out⟩
              · have b2 : decide ((pr.f4.length : Int) > 20) = false := decide_eq_false h2
                have h40 : pr.f5.length ≤ 40 := by omega
                go_upto_region 9 with (fail)
                clear f2 y4 y5 b1 b2 h1 h2
                go_loopg [4] pr.f5.length (fun kq v4 w' => ∃ k : Nat, v4 = .int .i64 k ∧ Aside0 (kq + k = pr.f5.length) ∧ k ≤ pr.f5.length ∧ Aside0 (w'.heap[w.heap.size]? = some (.cells #[.slice A0 n0 c0, .slice A1 n1 c1, .slice (some ad) l2.length c2, .int .i64 f3] 26 (0, 0))) ∧ Aside0 (Below w.heap.size w w') ∧ Aside0 (∀ b ∈ pr.f5.take k, law_okB b))
                case atStart => exact ⟨0, rfl, ⟨rfl⟩, Nat.zero_le _, BX, BB, ⟨fun p hp => by simp at hp⟩⟩
                case round =>
                  clear BX BB
                  obtain ⟨k, rfl, HKk, hk, BX, BB, HB⟩ := hrel
                  have f2 : wr.cell? ⟨w.heap.size, 2, none⟩ = some (.slice (some ad) l2.length c2) := (blk_cell BX.out 2).trans rfl
                  have y5 := (BB.out.cell (World.block_lt_of_cell? w _ Y5.out)).trans Y5.out
                  by_cases hkl : k < pr.f5.length
                  · have p3 : (0 : Int) ≤ (k : Int) := Int.natCast_nonneg _
                    have p4 : (k : Int) < (pr.f5.length : Int) := by omega
                    obtain ⟨ad5, A6, c6, e10, y0, _, _, _, _, hl0, j0⟩ := at_T45 HJ5.out (k : Int) p3 p4
                    cases e10
                    rw [Int.toNat_natCast] at y0
                    have Y0 := Aside0.mk y0
                    have HJ0 := Aside0.mk j0
                    replace y0 := (BB.out.cell (World.block_lt_of_cell? w _ y0)).trans y0
                    have hxk : pr.f5[k]? = some (rd_T45 pr.f5 (k : Int)) := by simp [rd_T45, List.getElem?_eq_getElem hkl]
                    have HXK := Aside0.mk hxk
                    clear hxk j0
                    generalize rd_T45 pr.f5 (k : Int) = bl at *
                    by_cases h1 : (bl.f0.length : Int) > 60
                    · have b1 : decide ((bl.f0.length : Int) > 60) = true := decide_eq_true h1
                      go_wp2
                      go_ret
                      exact ⟨false, rfl, fun h => by simp at h, BB.out⟩
                    · have b1 : decide ((bl.f0.length : Int) > 60) = false := decide_eq_false h1
                      have h60 : bl.f0.length ≤ 60 := by omega
                      go_upto_region 14 with (fail)
                      clear f2 y0 y5 b1 h1
                      go_loopg [5] bl.f0.length (fun kq v5 w' => ∃ j : Nat, v5 = .int .i64 j ∧ Aside0 (kq + j = bl.f0.length) ∧ j ≤ bl.f0.length ∧ Aside0 (w'.heap[w.heap.size]? = some (.cells #[.slice A0 n0 c0, .slice A1 n1 c1, .slice (some ad) l2.length c2, .int .i64 f3] 26 (0, 0))) ∧ Aside0 (Below w.heap.size w w') ∧ Aside0 (∀ x ∈ bl.f0.take j, x.f9.length ≤ 12))
                      case atStart => exact ⟨0, rfl, ⟨rfl⟩, Nat.zero_le _, BX, BB, ⟨fun p hp => by simp at hp⟩⟩
                      case round =>
                        clear BX BB
                        obtain ⟨j, rfl, HKj, hj, BX, BB, HI⟩ := hrel
                        have f2 : wr.cell? ⟨w.heap.size, 2, none⟩ = some (.slice (some ad) l2.length c2) := (blk_cell BX.out 2).trans rfl
                        have y5 := (BB.out.cell (World.block_lt_of_cell? w _ Y5.out)).trans Y5.out
                        have y0 := (BB.out.cell (World.block_lt_of_cell? w _ Y0.out)).trans Y0.out
                        by_cases hjl : j < bl.f0.length
                        · have p5 : (0 : Int) ≤ (j : Int) := Int.natCast_nonneg _
                          have p6 : (j : Int) < (bl.f0.length : Int) := by omega
                          obtain ⟨ai, A9, c9, e11, z0, z1, z2, z3, z4, z5, z6, z7, z8, z9, z10, hl9, j9⟩ := at_T84 HJ0.out (j : Int) p5 p6
                          cases e11
                          rw [Int.toNat_natCast] at z0 z1 z2 z3 z4 z5 z6 z7 z8 z9 z10
                          replace z0 := (BB.out.cell (World.block_lt_of_cell? w _ z0)).trans z0
                          replace z1 := (BB.out.cell (World.block_lt_of_cell? w _ z1)).trans z1
                          replace z2 := (BB.out.cell (World.block_lt_of_cell? w _ z2)).trans z2
                          replace z3 := (BB.out.cell (World.block_lt_of_cell? w _ z3)).trans z3
                          replace z4 := (BB.out.cell (World.block_lt_of_cell? w _ z4)).trans z4
                          replace z5 := (BB.out.cell (World.block_lt_of_cell? w _ z5)).trans z5
                          replace z6 := (BB.out.cell (World.block_lt_of_cell? w _ z6)).trans z6
                          replace z7 := (BB.out.cell (World.block_lt_of_cell? w _ z7)).trans z7
                          replace z8 := (BB.out.cell (World.block_lt_of_cell? w _ z8)).trans z8
                          replace z9 := (BB.out.cell (World.block_lt_of_cell? w _ z9)).trans z9
                          replace z10 := (BB.out.cell (World.block_lt_of_cell? w _ z10)).trans z10
                          have hxj : bl.f0[j]? = some (rd_T84 bl.f0 (j : Int)) := by simp [rd_T84, List.getElem?_eq_getElem hjl]
                          have HXJ := Aside0.mk hxj
                          have HJ9 := Aside0.mk (Kd.C_below j9 BB.out)
                          have HL9 := Aside0.mk hl9
                          clear hxj j9 hl9
                          generalize rd_T84 bl.f0 (j : Int) = xi at *
                          go_upto_region 15 with (go_at_call 75; refine (law13_ins.calls xi A9 c9 _ HJ9.out HL9.out).mono ?_; rintro e w3 ⟨bb, rfl, hb12, hb⟩; have H12 := Aside0.mk hb12; have BB3 := Aside0.mk (below_step BB.out hb); have BX3 := Aside0.mk (blk_below BX.out hb); cases bb; clear hb12 hb)
                          · go_wp2
                            go_ret
                            exact ⟨false, rfl, fun h => by simp at h, BB3.out⟩
                          · go_wp2
                            go_roundg (gk - 1)
                            case measure => have := HKj.out; omega
                            case rel => exact ⟨j + 1, by go_num, ⟨by have := HKj.out; omega⟩, by omega, BX3, BB3, ⟨law_take HXJ.out HI.out (by first | exact H12.out rfl | exact H12.out trivial)⟩⟩
                        · obtain rfl : j = bl.f0.length := by omega
                          go_wp2
                          go_roundg (pr.f5.length - (k + 1))
                          case measure => have := HKk.out; omega
                          case rel => exact ⟨k + 1, by go_num, ⟨by omega⟩, by omega, BX, BB, ⟨law_take HXK.out HB.out ⟨h60, by have := HI.out; rw [List.take_length] at this; exact this⟩⟩⟩
                  · obtain rfl : k = pr.f5.length := by omega
                    go_wp2
                    go_roundg (l2.length - (i + 1))
                    case measure => have := HK.out; omega
                    case rel => exact ⟨i + 1, by go_num, ⟨by omega⟩, by omega, BX, BB, ⟨law_take HXI.out HP.out ⟨h40, by have := HB.out; rw [List.take_length] at this; exact this⟩⟩⟩
          · obtain rfl : i = l2.length := by omega
            go_wp2
            go_ret
            exact ⟨true, rfl, fun _ => ⟨hl6, by have := HP.out; rw [List.take_length] at this; exact this⟩, BB.out⟩
theorem law_one31 {w : World} {g : Nat} {x : S31} {A4 A5 : Option Addr} {c4 c5 : Nat} (hb : w.heap[g]? = some (.cells #[.string x.f0, .bool x.f1, .int .i64 x.f2, .int .i64 x.f3, .slice A4 x.f4.length c4, .slice A5 x.f5.length c5] 31 (0, 0))) (h4 : x.f4.length ≤ c4) (r4 : Kd.C k76 w A4 x.f4.length x.f4) (h5 : x.f5.length ≤ c5) (r5 : Kd.C k45 w A5 x.f5.length x.f5) : Kd.C k31 w (some ⟨g, 0, none⟩) 1 [x] := by
  refine ⟨rfl, by decide, fun _ => ⟨⟨g, 0, none⟩, rfl, fun j p hj => ?_⟩⟩
  cases j with
  | succ j => simp at hj
  | zero =>
    have : x = p := by simpa using hj
    subst this
    refine ⟨_, rfl, k31_mk w x h4 r4 h5 r5, fun i u hu => ?_⟩
    have e : (⟨g, 0, none⟩ : Addr).add (0 * k31.sz + i) = ⟨g, i, none⟩ := by rw [Nat.zero_mul, Nat.zero_add]; unfold Addr.add; split <;> simp_all
    rw [e, blk_cell hb]
    simpa using hu
set_option maxHeartbeats 8000000 in
set_option maxRecDepth 100000 in
/-- a procedure that the flow statements go through -/
theorem law16_few.calls (a0 : ByteArray) (a1 : Bool) (a2 a3 : Int) (A4 : Option Addr) (c4 : Nat) (l4 : List S76) (A5 : Option Addr) (c5 : Nat) (l5 : List S45) (w : World)
    (hr4 : Kd.C k76 w A4 l4.length l4) (hc4 : l4.length ≤ c4) (hr5 : Kd.C k45 w A5 l5.length l5) (hc5 : l5.length ≤ c5) :
    Calls Try.prog 16 #[.agg #[.string a0, .bool a1, .int .i64 a2, .int .i64 a3, .slice A4 l4.length c4, .slice A5 l5.length c5]] w (law_tells (a3 ≤ 30 ∧ law_okP l5) w) := by
  have hu26 := Try.underlying26
  have hu24 := Try.underlying24
  have hu31 := Try.underlying31
  have B1 := below_alloc (Below.refl w.heap.size w) (.cells #[.string a0, .bool a1, .int .i64 a2, .int .i64 a3, .slice A4 l4.length c4, .slice A5 l5.length c5] 31)
  have B2 := below_alloc B1 (.cells #[.string a0, .bool a1, .int .i64 a2, .int .i64 a3, .slice A4 l4.length c4, .slice A5 l5.length c5] 31)
  have X2 := blk_new (w.alloc (.cells #[.string a0, .bool a1, .int .i64 a2, .int .i64 a3, .slice A4 l4.length c4, .slice A5 l5.length c5] 31)) (.cells #[.string a0, .bool a1, .int .i64 a2, .int .i64 a3, .slice A4 l4.length c4, .slice A5 l5.length c5] 31)
  rw [World.size_alloc] at X2
  have HC := Aside0.mk (law_one31 (x := ⟨a0, a1, a2, a3, l4, l5⟩) X2 hc4 (Kd.C_below hr4 B2) hc5 (Kd.C_below hr5 B2))
  have BB1 := Aside0.mk B1
  have BB2 := Aside0.mk B2
  clear B1 B2 X2 hr4 hr5
  by_cases h1 : a3 ≤ 30
  · have b1 : decide (a3 ≤ 30) = true := decide_eq_true h1
    go_enter Try.func16, Try.ntmps16
    go_wp2_with (go_at_call 45; refine (law13_Few.calls none 0 0 none 0 0 (some ⟨w.heap.size + 1, 0, none⟩) 1 [⟨a0, a1, a2, a3, l4, l5⟩] 0 _ HC.out (Nat.le_refl _)).mono ?_; rintro e w3 ⟨bb, rfl, hb12, hb⟩; have H12 := Aside0.mk hb12; have BB3 := Aside0.mk (below_step BB2.out hb); clear hb12 hb)
    go_ret
    exact ⟨bb, rfl, fun h => ⟨h1, (H12.out h).2 _ (List.mem_cons_self ..)⟩, BB3.out⟩
  · have b1 : decide (a3 ≤ 30) = false := decide_eq_false h1
    go_enter Try.func16, Try.ntmps16
    go_wp2
    go_ret
    exact ⟨false, rfl, fun h => by simp at h, BB1.out⟩
end Go.Proofs.Ytppanpboejpmjaa.Tr
