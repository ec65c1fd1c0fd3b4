/- StoreC: functions of the program walked by hand, and what they come to. -/
import Derived.Test.YtplafnaocgifoaaProg
import Derived.Below
import Derived.Deep.Draws
import Derived.Deep.AppendLies
import Derived.Maps.AppendAt
import Derived.OwnWalk
import Derived.Laws.BytesArg
import Derived.Laws.MakeOwn
import Derived.Laws.OwnMore
import Derived.Deep.OwnRows
import Derived.Tactics
import Derived.Lib.ConvBytes
import Derived.Laws.Slices
import Derived.WalkKit
import Derived.KernelRfl
import Derived.RowKit3
import Derived.Deep.LoopGhost
import Derived.Deep.QuietTactic
import Derived.BigQuiet
import Derived.WideLaws
import Derived.Deep.DeepCutAuto
import Derived.Deep.CutBlock
import Derived.Deep.RegionHeld3
import Derived.Laws.Rows
import Derived.Lib.AppendStr
import Derived.ArgAppend
import Derived.Laws.IdiomCopy
import Derived.OrdersHeld
import Derived.Laws.BitsLemmas
import Derived.RowKit
import Derived.Test.YtplafnaocgifoaaWWords
import Derived.Test.YtplafnaocgifoaaWLast
import Derived.Test.YtplafnaocgifoaaWTab
import Derived.Test.YtplafnaocgifoaaWFour
import Derived.Test.YtplafnaocgifoaaWQPut
import Derived.Test.YtplafnaocgifoaaWApart
import Derived.Test.YtplafnaocgifoaaWArr
import Derived.Test.YtplafnaocgifoaaWZeros
import Derived.Test.YtplafnaocgifoaaWFoot
import Derived.Test.YtplafnaocgifoaaWKept
import Derived.Test.YtplafnaocgifoaaWShare
import Derived.Test.YtplafnaocgifoaaWN
import Derived.Test.YtplafnaocgifoaaWFootNe
import Derived.Test.YtplafnaocgifoaaWAt
import Derived.Test.YtplafnaocgifoaaWEqStruct
import Derived.Test.YtplafnaocgifoaaWRepsOne
import Derived.Test.YtplafnaocgifoaaWInv
import Derived.Test.YtplafnaocgifoaaWInvWords
import Derived.Test.YtplafnaocgifoaaWGuard
import Derived.Test.YtplafnaocgifoaaWNEv
import Derived.Test.YtplafnaocgifoaaWMore
import Derived.Test.YtplafnaocgifoaaSt0
import Derived.Test.YtplafnaocgifoaaStoreB
import Derived.BigRegion
import Derived.Outline
set_option linter.all false
namespace Go.Proofs.Ytplafnaocgifoaa.St
open Go.RowKit Go.Proofs.YtplafnaocgifoaaW.PrintWords Go.Proofs.YtplafnaocgifoaaW.PrintLast Go.Proofs.YtplafnaocgifoaaW.PrintMore
/-- .. while the map alone turns -/
theorem store_Ob.turned {w0 w w' : World} {sb lb cap db tb n m b : Nat} {mp : Option Nat} {g g' : Int → S24} {data : List Int} {set : List Bool} (h : store_Ob w0 w sb lb cap db tb n mp m g data set) (hg : w.grownBy w' (some b)) (hn : ∀ cs t, w.heap[b]? ≠ some (.cells cs t (0, 0))) (hB : Below w0.heap.size w0 w') {m' : Nat} (hp : (mp = none ∧ g' = fun _ => z24) ∨ ∃ b, mp = some b ∧ w0.heap.size ≤ b ∧ store_Map w' b m' g') : store_Ob w0 w' sb lb cap db tb n mp m' g' data set where
  s := store_Kept.grown hg hn _ _ _ h.s (by decide) (by decide) (by decide)
  l := by
    obtain ⟨cs, h1, h2⟩ := h.l
    exact ⟨cs, blk_grown h1 hg (fun e => by injection e with e; subst e; exact hn _ _ h1), h2⟩
  d := blk_grown h.d hg (fun e => by injection e with e; subst e; exact hn _ _ h.d)
  t := blk_grown h.t hg (fun e => by injection e with e; subst e; exact hn _ _ h.t)
  dl := h.dl
  tl := h.tl
  p := hp
  bs := h.bs
  bl := h.bl
  bd := h.bd
  bt := h.bt
  below := hB
theorem store_Map.not {w : World} {b m : Nat} {g : Int → S24} (h : store_Map w b m g) : ∀ cs t, w.heap[b]? ≠ some (.cells cs t (0, 0)) := by
  obtain ⟨D, ⟨es, clock, h1, _⟩, _⟩ := h
  intro cs t h2
  rw [h1] at h2; cases h2
theorem store_forget_ob (w0 w : World) (sb lb cap db tb n m P : Nat) (mp : Option Nat) (g : Int → S24) (data : List Int) (set : List Bool) (h : store_Ob w0 w sb lb cap db tb n mp m g data set) (hP : P ≤ 1000000) :
    Calls Try.prog 20 #[.pointer (some ⟨lb, 0, none⟩), .int .i64 P, .int .i64 4] w fun e w' => e = .returned (.tuple #[]) ∧ store_Ob w0 w' sb lb cap db tb n mp m (store_gone g ((P : Int) - 3) ((P : Int) + 4)) data set ∧ store_Kept w w' ∧ w.heap.size ≤ w'.heap.size := by
  obtain ⟨cs, l1, l2, l3, l4, l5⟩ := h.l
  rcases h.p with ⟨rfl, rfl⟩ | ⟨b, rfl, hb, hm⟩
  · refine (store_forget_none w lb P cs l1 l4 hP).mono ?_
    rintro e w' ⟨rfl, rfl⟩
    refine ⟨rfl, ?_, fun _ _ _ a _ _ _ => a, Nat.le_refl _⟩
    have : store_gone (fun _ => z24) ((P : Int) - 3) ((P : Int) + 4) = fun _ => z24 := by
      funext x; unfold store_gone; split <;> rfl
    rw [this]; exact h
  · refine (store_forget_some w w0 lb b m P cs g l1 l4 hm hP h.below hb).mono ?_
    rintro e w' ⟨rfl, h1, h2, h3⟩
    exact ⟨rfl, h.turned h2 hm.not h3 (.inr ⟨b, rfl, hb, h1⟩), store_Kept.grown h2 hm.not, h2.4⟩
theorem store_place_ob (w0 w : World) (sb lb cap db tb n m P : Nat) (mp : Option Nat) (g : Int → S24) (data : List Int) (set : List Bool) (h : store_Ob w0 w sb lb cap db tb n mp m g data set) (p1 p2 : Int) (ptr : Bool)
    (h1 : p1 ≤ (P : Int)) (h3 : (P : Int) + 4 ≤ p2) (h4 : (P : Int) + 4 ≤ n) (h5 : p2 ≤ 1000000) (h6 : n ≤ 1000000) :
    Calls Try.prog 19 #[.pointer (some ⟨sb, 0, none⟩), .agg #[.int .i64 1, .int .i64 p1, .int .i64 p2, .int .i64 P], .int .i64 4, .bool ptr] w fun e w' => e = .returned (.tuple #[.pointer (some ⟨lb, 0, none⟩), .int .i64 0]) ∧ Below w.heap.size w w' := by
  obtain ⟨cs, l1, l2, l3, l4, l5⟩ := h.l
  exact store_place.one w sb lb cap db n cs p1 p2 P 4 ptr h.s l1 l5 l2 rfl h1 (Int.natCast_nonneg _) h3 h4 h5 h6
theorem store_Map.far {w : World} {b m : Nat} {g : Int → S24} (h : store_Map w b m g) {k : Nat} {cs : Array Value} {t : TypeId} (hk : w.heap[k]? = some (.cells cs t (0, 0))) (j : Nat) (u : Value) : store_Map (w.setCell ⟨k, j, none⟩ u) b m g :=
  h.below (Below.heap_setCell w _ u b (fun e => h.not cs t (by simp only at e; subst e; exact hk)))
theorem store_Ob.putD {w0 w : World} {sb lb cap db tb n m : Nat} {mp : Option Nat} {g : Int → S24} {data : List Int} {set : List Bool} (h : store_Ob w0 w sb lb cap db tb n mp m g data set) (j : Nat) (v : Int) : store_Ob w0 (w.setCell ⟨db, j, none⟩ (.int .u8 v)) sb lb cap db tb n mp m g (data.set j v) set where
  s := blk_far h.s (blk_ne h.s h.d (by decide)) _
  l := by obtain ⟨cs, h1, h2⟩ := h.l; exact ⟨cs, blk_far h1 (blk_ne h1 h.d (by decide)) _, h2⟩
  d := blk_put h.d j _ (by simp [nums, List.map_set])
  t := blk_far h.t (blk_ne h.t h.d (by decide)) _
  dl := by rw [List.length_set]; exact h.dl
  tl := h.tl
  p := by
    rcases h.p with h1 | ⟨b, h1, h2, h3⟩
    · exact .inl h1
    · exact .inr ⟨b, h1, h2, h3.far h.d _ _⟩
  bs := h.bs
  bl := h.bl
  bd := h.bd
  bt := h.bt
  below := below_set h.below h.bd
theorem store_Ob.putT {w0 w : World} {sb lb cap db tb n m : Nat} {mp : Option Nat} {g : Int → S24} {data : List Int} {set : List Bool} (h : store_Ob w0 w sb lb cap db tb n mp m g data set) (j : Nat) (v : Bool) : store_Ob w0 (w.setCell ⟨tb, j, none⟩ (.bool v)) sb lb cap db tb n mp m g data (set.set j v) where
  s := blk_far h.s (blk_ne h.s h.t (by decide)) _
  l := by obtain ⟨cs, h1, h2⟩ := h.l; exact ⟨cs, blk_far h1 (blk_ne h1 h.t (by decide)) _, h2⟩
  d := blk_far h.d (blk_ne h.d h.t (by decide)) _
  t := blk_put h.t j _ (by simp [bools, List.map_set])
  dl := h.dl
  tl := by rw [List.length_set]; exact h.tl
  p := by
    rcases h.p with h1 | ⟨b, h1, h2, h3⟩
    · exact .inl h1
    · exact .inr ⟨b, h1, h2, h3.far h.t _ _⟩
  bs := h.bs
  bl := h.bl
  bd := h.bd
  bt := h.bt
  below := below_set h.below h.bt
theorem store_Ob.drew {w0 w : World} {sb lb cap db tb n m : Nat} {mp : Option Nat} {g : Int → S24} {data : List Int} {set : List Bool} (h : store_Ob w0 w sb lb cap db tb n mp m g data set) : store_Ob w0 w.drew sb lb cap db tb n mp m g data set := h.step (below_drew (Below.refl _ _))
/-- the bytes of a number, put one behind the other -/
def store_wr (data : List Int) (P : Nat) (x : Int) : Nat → List Int
  | 0 => data
  | i + 1 => (store_wr data P x i).set (P + i) (x / 2 ^ (8 * i) % 256)
def store_on (set : List Bool) (P : Nat) : Nat → List Bool
  | 0 => set
  | i + 1 => (store_on set P i).set (P + i) true
theorem store_wr_length (data : List Int) (P : Nat) (x : Int) (i : Nat) : (store_wr data P x i).length = data.length := by
  induction i with
  | zero => rfl
  | succ i ih => simp [store_wr, ih]
theorem store_on_length (set : List Bool) (P : Nat) (i : Nat) : (store_on set P i).length = set.length := by
  induction i with
  | zero => rfl
  | succ i ih => simp [store_on, ih]
set_option maxHeartbeats 8000000 in
set_option maxRecDepth 100000 in
theorem store_Put_num (w0 w : World) (sb lb cap db tb n m P : Nat) (mp : Option Nat) (g : Int → S24) (data : List Int) (set : List Bool) (h : store_Ob w0 w sb lb cap db tb n mp m g data set) (p1 p2 : Int) (x : Int) (q : S24)
    (h1 : p1 ≤ (P : Int)) (h3 : (P : Int) + 4 ≤ p2) (h4 : (P : Int) + 4 ≤ n) (h5 : p2 ≤ 1000000) (h6 : n ≤ 1000000) (hx : 0 ≤ x ∧ x < 4294967296) :
    Calls Try.prog 10 #[.pointer (some ⟨sb, 0, none⟩), .agg #[.int .i64 1, .int .i64 p1, .int .i64 p2, .int .i64 P], .int .i64 4, .agg #[.int .u32 x, .int .i64 q.f0, .int .i64 q.f1, .int .i64 q.f2, .int .i64 q.f3, .bool false]] w fun e w' => e = .returned (.int .i64 0) ∧ store_Ob w0 w' sb lb cap db tb n mp m (store_gone g ((P : Int) - 3) ((P : Int) + 4)) (store_wr data P x 4) (store_on set P 4) ∧ store_Kept w w' ∧ w.heap.size ≤ w'.heap.size := by
  have hu24 := Try.underlying24
  have hu26 := Try.underlying26
  have hu59 := Try.underlying59
  have hu56 := Try.underlying56
  have hu41 := Try.underlying41
  have hu54 := Try.underlying54
  have H := Aside0.mk h
  have hP : P ≤ 1000000 := by omega
  clear h
  go_enter Try.func10, Try.ntmps10
  go_wp2_with (first | (go_at_call 19; (with_reducible refine (store_place_ob w0 _ sb lb cap db tb n m P mp g data set ?a1 p1 p2 false h1 h3 h4 h5 h6).mono ?_); (case a1 => exact H.out.step (below_alloc (below_alloc (Below.refl _ _) _) _)); rintro e w1 ⟨rfl, hb⟩; have H1 := Aside0.mk (H.out.step (below_step (below_alloc (below_alloc (Below.refl w.heap.size w) _) _) hb)); have BX1 := Aside0.mk (blk_below (blk_alloc (blk_new w _) _) hb); have BY1 := Aside0.mk (blk_below (store_second w _ _) hb); have KP1 := Aside0.mk (store_Kept.below (below_step (below_alloc (below_alloc (Below.refl w.heap.size w) _) _) hb)); have a1 : w1.cell? ⟨w.heap.size + 1, 0, none⟩ = some (.int .u32 x) := (blk_cell BY1.out 0).trans rfl; have a3 : w1.cell? ⟨w.heap.size, 3, none⟩ = some (.int .i64 P) := (blk_cell BX1.out 3).trans rfl; have SZ1 : w.heap.size ≤ w1.heap.size := (by have := hb.size; simp [World.size_alloc] at this; omega); clear hb) | (go_at_call 20; (with_reducible refine (store_forget_ob w0 w1 sb lb cap db tb n m P mp g data set H1.out hP).mono ?_); rintro e w2 ⟨rfl, hO, hK, hZ⟩; have H2 := Aside0.mk hO; have BX2 := Aside0.mk (hK _ _ _ BX1.out (by decide) (by decide) (by decide)); have KP2 := Aside0.mk (KP1.out.trans hK); have a2 : w2.cell? ⟨w.heap.size + 1, 5, none⟩ = some (.bool false) := (blk_cell (hK _ _ _ BY1.out (by decide) (by decide) (by decide)) 5).trans rfl; have SZ2 := Nat.le_trans SZ1 hZ; clear hO hK hZ))
  go_loopg [52] 4 (fun kq v52 w' => ∃ i : Nat, v52 = .int .i64 i ∧ Aside0 (kq + i = 4) ∧ i ≤ 4 ∧ Aside0 (store_Ob w0 w' sb lb cap db tb n mp m (store_gone g ((P : Int) - 3) ((P : Int) + 4)) (store_wr data P x i) (store_on set P i)) ∧ Aside0 (w'.heap[w.heap.size]? = some (.cells #[.int .i64 1, .int .i64 p1, .int .i64 p2, .int .i64 P] 24 (0, 0))) ∧ Aside0 (store_Kept w w') ∧ Aside0 (w.heap.size ≤ w'.heap.size))
  case atStart => exact ⟨0, rfl, ⟨rfl⟩, by omega, H2, BX2, KP2, ⟨SZ2⟩⟩
  case round =>
    obtain ⟨i, rfl, HK, hi, HO, BXr, KPr, SZr⟩ := hrel
    obtain ⟨cs, l1, l2, l3, l4, l5⟩ := HO.out.l
    have f0 : wr.cell? ⟨lb, 0, none⟩ = some (.slice (some ⟨db, 0, none⟩) n n) := (blk_cell l1 0).trans l2
    have f1 : wr.cell? ⟨lb, 1, none⟩ = some (.slice (some ⟨tb, 0, none⟩) n n) := (blk_cell l1 1).trans l3
    have f3 : wr.cell? ⟨w.heap.size, 3, none⟩ = some (.int .i64 P) := (blk_cell BXr.out 3).trans rfl
    have HL := Aside0.mk l1
    clear l1 l2 l3 l4 l5
    have x1 : db ≠ lb := blk_ne HO.out.d HL.out (by decide)
    have x2 : tb ≠ lb := blk_ne HO.out.t HL.out (by decide)
    have x3 : db ≠ tb := blk_ne HO.out.d HO.out.t (by decide)
    have x4 : db ≠ w.heap.size := blk_ne HO.out.d BXr.out (by decide)
    have x5 : tb ≠ w.heap.size := blk_ne HO.out.t BXr.out (by decide)
    by_cases hlt : i < 4
    · have hld : P + i < (store_wr data P x i).length := by rw [store_wr_length]; have := H.out.dl; omega
      have hlo : P + i < (store_on set P i).length := by rw [store_on_length]; have := H.out.tl; omega
      have ft : wr.cell? ⟨tb, P + i, none⟩ = some (.bool (store_on set P i)[P + i]) := (blk_cell HO.out.t _).trans (by simp [bools, hlo])
      have fd : wr.cell? ⟨db, P + i, none⟩ = some (.int .u8 (store_wr data P x i)[P + i]) := (blk_cell HO.out.d _).trans (by simp [nums, hld])
      have zt := blk_frozen HO.out.t (P + i)
      have zd := blk_frozen HO.out.d (P + i)
      have q1 : (0 : Int) ≤ ((P + i : Nat) : Int) := Int.natCast_nonneg _
      have q2 : ((P + i : Nat) : Int) < (n : Int) := by omega
      have s1 : IntKind.i64.wrap ((P : Int) + (i : Int)) = ((P + i : Nat) : Int) := (IntWalk.i64_in _ (by omega)).trans (by omega)
      have s2 : IntKind.i64.wrap (8 * (i : Int)) = ((8 * i : Nat) : Int) := (IntWalk.i64_in _ (by omega)).trans (by omega)
      have s3 : IntKind.i64.wrap ((i : Int) + 1) = ((i + 1 : Nat) : Int) := (IntWalk.i64_in _ (by omega)).trans (by omega)
      have q3 : (0 : Int) ≤ ((8 * i : Nat) : Int) := Int.natCast_nonneg _
      obtain ⟨oldt, eot⟩ : ∃ o, o = (store_on set P i)[P + i] := ⟨_, rfl⟩
      obtain ⟨oldd, eod⟩ : ∃ o, o = (store_wr data P x i)[P + i] := ⟨_, rfl⟩
      rw [← eot] at ft
      rw [← eod] at fd
      clear eot eod hld hlo
      go_wp2
      go_big_region
      go_wp2
      go_roundg (gk - 1)
      case measure => have := HK.out; omega
      case rel =>
        have HO2 := (HO.out.putD (P + i) (x / 2 ^ (8 * i) % 256))
        refine ⟨i + 1, by go_num, ⟨by have := HK.out; omega⟩, by omega, ⟨(HO2.putT (P + i) true).drew⟩, ⟨?_⟩, ⟨?_⟩, ⟨?_⟩⟩
        · exact blk_far (blk_far BXr.out (p := ⟨db, P + i, none⟩) (Ne.symm x4) _) (p := ⟨tb, P + i, none⟩) (Ne.symm x5) _
        · exact (KPr.out.trans (store_Kept.set HO.out.d (.inr (.inl rfl)) _)).trans (store_Kept.set HO2.t (.inr (.inr rfl)) _)
        · simpa [World.setCell] using SZr.out
    · have hi4 : i = 4 := by omega
      subst hi4
      go_wp2
      go_ret
      exact ⟨rfl, HO.out, KPr.out, SZr.out⟩
end Go.Proofs.Ytplafnaocgifoaa.St
