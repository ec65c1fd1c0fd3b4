/- StoreB: functions of the program walked by hand, and what they come to. -/
import Derived.Test.YtplafnaocgifoaaProg
import Derived.Below
import Derived.Deep.Draws
import Derived.Deep.AppendLies
import Derived.Maps.AppendAt
import Derived.OwnWalk
import Derived.Laws.BytesArg
import Derived.Laws.MakeOwn
import Derived.Laws.OwnMore
import Derived.Deep.OwnRows
import Derived.Tactics
import Derived.Lib.ConvBytes
import Derived.Laws.Slices
import Derived.WalkKit
import Derived.KernelRfl
import Derived.RowKit3
import Derived.Deep.LoopGhost
import Derived.Deep.QuietTactic
import Derived.BigQuiet
import Derived.WideLaws
import Derived.Deep.DeepCutAuto
import Derived.Deep.CutBlock
import Derived.Deep.RegionHeld3
import Derived.Laws.Rows
import Derived.Lib.AppendStr
import Derived.ArgAppend
import Derived.Laws.IdiomCopy
import Derived.OrdersHeld
import Derived.Laws.BitsLemmas
import Derived.RowKit
import Derived.Test.YtplafnaocgifoaaWWords
import Derived.Test.YtplafnaocgifoaaWLast
import Derived.Test.YtplafnaocgifoaaWTab
import Derived.Test.YtplafnaocgifoaaWFour
import Derived.Test.YtplafnaocgifoaaWQPut
import Derived.Test.YtplafnaocgifoaaWApart
import Derived.Test.YtplafnaocgifoaaWArr
import Derived.Test.YtplafnaocgifoaaWZeros
import Derived.Test.YtplafnaocgifoaaWFoot
import Derived.Test.YtplafnaocgifoaaWKept
import Derived.Test.YtplafnaocgifoaaWShare
import Derived.Test.YtplafnaocgifoaaWN
import Derived.Test.YtplafnaocgifoaaWFootNe
import Derived.Test.YtplafnaocgifoaaWAt
import Derived.Test.YtplafnaocgifoaaWEqStruct
import Derived.Test.YtplafnaocgifoaaWRepsOne
import Derived.Test.YtplafnaocgifoaaWInv
import Derived.Test.YtplafnaocgifoaaWInvWords
import Derived.Test.YtplafnaocgifoaaWGuard
import Derived.Test.YtplafnaocgifoaaWNEv
import Derived.Test.YtplafnaocgifoaaWMore
import Derived.Test.YtplafnaocgifoaaSt0
import Derived.Test.YtplafnaocgifoaaStoreA
import Derived.Maps.OwnSet
import Derived.Outline
set_option linter.all false
namespace Go.Proofs.Ytplafnaocgifoaa.St
open Go.RowKit Go.Proofs.YtplafnaocgifoaaW.PrintWords Go.Proofs.YtplafnaocgifoaaW.PrintLast Go.Proofs.YtplafnaocgifoaaW.PrintMore
theorem store_law : Go.Maps.Keyed Try.prog 3 := Go.Maps.int_keyed Try.underlying3
theorem store_zero (w : World) : (zeroValue 24).run Try.prog w = .ok (.agg #[.int .i64 0, .int .i64 0, .int .i64 0, .int .i64 0]) w := by kernel_rfl
/-- how a pointer of the language reads, and back -/
def store_enc (x : S24) : DataW Unit := .agg [.lit (.int .i64 x.f0), .lit (.int .i64 x.f1), .lit (.int .i64 x.f2), .lit (.int .i64 x.f3)]
def store_val (x : S24) : Value := .agg #[.int .i64 x.f0, .int .i64 x.f1, .int .i64 x.f2, .int .i64 x.f3]
def store_rd (v : Value) : Option (DataW Unit × List MemPlace) :=
  match v with
  | .agg cs => match cs.toList with
    | [.int .i64 a, .int .i64 b, .int .i64 c, .int .i64 d] => some (store_enc ⟨a, b, c, d⟩, [])
    | _ => none
  | _ => none
theorem store_rd_val (x : S24) : store_rd (store_val x) = some (store_enc x, []) := rfl
theorem store_enc_inj {x y : S24} (h : store_enc x = store_enc y) : x = y := by
  cases x; cases y
  simp only [store_enc, DataW.agg.injEq, List.cons.injEq, DataW.lit.injEq, Lit.int.injEq, true_and, and_true] at h
  obtain ⟨rfl, rfl, rfl, rfl⟩ := h
  rfl
theorem store_rd_inv {v : Value} {x : S24} {ps : List MemPlace} (h : store_rd v = some (store_enc x, ps)) : v = store_val x := by
  unfold store_rd at h
  split at h
  · rename_i cs
    split at h
    · rename_i a b c d e
      simp only [Option.some.injEq, Prod.mk.injEq] at h
      have := store_enc_inj h.1
      subst this
      have : cs = #[.int .i64 a, .int .i64 b, .int .i64 c, .int .i64 d] := by
        cases cs; simpa using e
      rw [this]; rfl
    · cases h
  · cases h
/-- block b is the map of an object's pointers: g at each place -/
def store_Map (w : World) (b m : Nat) (g : Int → S24) : Prop :=
  ∃ D : DataW Unit, w.ownsMap Try.prog 3 store_rd b m D ∧ Go.Maps.IsMap D ∧ ∀ x : Int, D.atKey (.int .i64 x) (store_enc z24) = store_enc (g x)
theorem store_Map.start (w : World) : store_Map (w.alloc (.map #[] 0)) w.heap.size 0 (fun _ => z24) :=
  ⟨.map [], World.ownsMap_made _ _ _ _, Go.Maps.isMap_empty, fun _ => rfl⟩
theorem store_Map.below {w w' : World} {b m : Nat} {g : Int → S24} (h : store_Map w b m g) (hb : w'.heap[b]? = w.heap[b]?) : store_Map w' b m g := by
  obtain ⟨D, ⟨es, clock, h1, h4⟩, h2, h3⟩ := h
  exact ⟨D, ⟨es, clock, hb.trans h1, h4⟩, h2, h3⟩
/-- the pointers but those that lie over the bytes from P on -/
def store_gone (g : Int → S24) (a b : Int) : Int → S24 := fun x => if a ≤ x ∧ x < b then z24 else g x
theorem store_size0 {D : DataW Unit} (h : Go.Maps.IsMap D) (hs : Go.Maps.size D = 0) (k : Lit) (z : DataW Unit) : D.atKey k z = z := by
  obtain ⟨es, rfl⟩ := h
  have : es = [] := List.length_eq_zero_iff.1 hs
  subst this; rfl
set_option maxHeartbeats 8000000 in
set_option maxRecDepth 100000 in
theorem store_forget_some (w w0 : World) (lb b m P : Nat) (cs : Array Value) (g : Int → S24) (hl : w.heap[lb]? = some (.cells cs 59 (0, 0))) (hg : cs[2]? = some (.map (some b))) (hm : store_Map w b m g) (hP : P ≤ 1000000) (hB : Below w0.heap.size w0 w) (hb0 : w0.heap.size ≤ b) :
    Calls Try.prog 20 #[.pointer (some ⟨lb, 0, none⟩), .int .i64 P, .int .i64 4] w fun e w' => e = .returned (.tuple #[]) ∧ store_Map w' b m (store_gone g ((P : Int) - 3) ((P : Int) + 4)) ∧ w.grownBy w' (some b) ∧ Below w0.heap.size w0 w' := by
  have n1 := blk_lt hl
  have hu59 := Try.underlying59
  have HL := Aside0.mk hl
  have HG := Aside0.mk hg
  have HB := Aside0.mk hB
  have s0 : IntKind.i64.wrap ((P : Int) - 4) = (P : Int) - 4 := IntWalk.i64_in _ (by omega)
  have s1 : IntKind.i64.wrap ((P : Int) - 4 + 1) = (P : Int) - 3 + ((0 : Nat) : Int) := (IntWalk.i64_in _ (by omega)).trans (by omega)
  have s2 : IntKind.i64.wrap ((P : Int) + 4) = (P : Int) + 4 := IntWalk.i64_in _ (by omega)
  have HM := Aside0.mk hm
  clear hl hg hB hm
  go_enter Try.func20, Try.ntmps20
  go_wp2
  go_loopg [6] 7 (fun kq v6 w' => ∃ i : Nat, v6 = .int .i64 ((P : Int) - 3 + (i : Int)) ∧ Aside0 (kq + i = 7) ∧ i ≤ 7 ∧ Aside0 (store_Map w' b m (store_gone g ((P : Int) - 3) ((P : Int) - 3 + (i : Int)))) ∧ Aside0 (w.grownBy w' (some b)) ∧ Aside0 (Below w0.heap.size w0 w'))
  case atStart =>
    refine ⟨0, by simp, ⟨rfl⟩, by omega, ⟨?_⟩, ⟨⟨rfl, rfl, rfl, Nat.le_refl _, fun _ _ _ => rfl⟩⟩, HB⟩
    obtain ⟨D, h1, h2, h3⟩ := HM.out
    exact ⟨D, h1, h2, fun x => by rw [h3 x]; unfold store_gone; rw [if_neg (by omega)]⟩
  case round =>
    obtain ⟨i, rfl, HK, hi, HMr, HGr, HBr⟩ := hrel
    have HLr := Aside0.mk (blk_grown HL.out HGr.out (by
      obtain ⟨D, ⟨es, clock, h1, _⟩, _⟩ := HM.out
      intro e; injection e with e; subst e
      rw [HL.out] at h1; cases h1))
    have f2 : wr.cell? ⟨lb, 2, none⟩ = some (.map (some b)) := (blk_cell HLr.out 2).trans HG.out
    obtain ⟨D, hown, hmap, hat⟩ := HMr.out
    have hlen := hown.len Try.underlying57 3
    have s3 : IntKind.i64.wrap ((P : Int) - 3 + (i : Int) + 1) = (P : Int) - 3 + ((i + 1 : Nat) : Int) := (IntWalk.i64_in _ (by omega)).trans (by omega)
    by_cases hlt : i < 7
    · have b1 : decide ((P : Int) - 3 + (i : Int) < (P : Int) + 4) = true := decide_eq_true (by omega)
      by_cases hz : Go.Maps.size D = 0
      · rw [hz] at hlen
        go_wp2
        refine bodyPost_end (v := .tuple #[]) (by simp [results, Try.results20, go_sem]) rfl ?_
        refine ⟨rfl, ⟨D, hown, hmap, fun x => ?_⟩, HGr.out, HBr.out⟩
        rw [hat x]
        have hx := store_enc_inj ((store_size0 hmap hz (.int .i64 x) (store_enc z24)).symm.trans (hat x))
        rw [← hx]
        unfold store_gone at hx ⊢
        split
        · rfl
        · rename_i hn
          rw [if_neg (by omega)] at hx
          rw [← hx]
      · have b2 : decide (0 < ((Go.Maps.size D : Nat) : Int)) = true := decide_eq_true (by omega)
        go_wp2_with (at_delete; refine wpList_delete_own _ rfl _ _ 57 3 rfl 24 store_law Try.underlying57 store_rd b m D rfl hown _ (.int .i64 ((P : Int) - 3 + (i : Int))) rfl (Go.Maps.keyOf_int_mk Try.underlying3 (WalkArith.wf_i64 (by omega))) ?_; intro w1 hown1 hturn1; have HT1 := Aside0.mk hturn1; have HO1 := Aside0.mk hown1; clear hturn1 hown1)
        go_roundg (gk - 1)
        case measure => have := HK.out; omega
        case rel =>
          refine ⟨i + 1, by first | go_num | (congr 1; omega), ⟨by have := HK.out; omega⟩, by omega, ⟨⟨_, HO1.out, hmap.del _, fun x => ?_⟩⟩, ⟨?_⟩, ⟨?_⟩⟩
          · by_cases e : x = (P : Int) - 3 + (i : Int)
            · subst e
              rw [Go.Maps.atKey_del_same]; unfold store_gone; rw [if_pos (by omega)]
            · rw [Go.Maps.atKey_del_other (by intro hh; injection hh with _ hh; exact e hh), hat x]
              unfold store_gone
              by_cases hx : (P : Int) - 3 ≤ x ∧ x < (P : Int) - 3 + (i : Int)
              · rw [if_pos hx, if_pos (by omega)]
              · rw [if_neg hx, if_neg (by omega)]
          · have h1 := HGr.out
            have h2 := HT1.out.grown
            exact ⟨h2.1.trans h1.1, h2.2.trans h1.2, h2.3.trans h1.3, Nat.le_trans h1.4 h2.4, fun k hk hne => (h2.5 k (Nat.lt_of_lt_of_le hk h1.4) hne).trans (h1.5 k hk hne)⟩
          · exact Below.grown HBr.out HT1.out.grown HBr.out.size (by intro k e; injection e with e; subst e; exact hb0)
    · have hi7 : i = 7 := by omega
      subst hi7
      have b1 : decide ((P : Int) - 3 + ((7 : Nat) : Int) < (P : Int) + 4) = false := decide_eq_false (by omega)
      go_wp2
      refine bodyPost_end (v := .tuple #[]) (by simp [results, Try.results20, go_sem]) rfl ?_
      have e : (P : Int) - 3 + ((7 : Nat) : Int) = (P : Int) + 4 := by omega
      rw [e] at HMr
      exact ⟨rfl, HMr.out, HGr.out, HBr.out⟩
set_option maxHeartbeats 8000000 in
set_option maxRecDepth 100000 in
theorem store_forget_none (w : World) (lb P : Nat) (cs : Array Value) (hl : w.heap[lb]? = some (.cells cs 59 (0, 0))) (hg : cs[2]? = some (.map none)) (hP : P ≤ 1000000) :
    Calls Try.prog 20 #[.pointer (some ⟨lb, 0, none⟩), .int .i64 P, .int .i64 4] w fun e w' => e = .returned (.tuple #[]) ∧ w' = w := by
  have n1 := blk_lt hl
  have hu59 := Try.underlying59
  have f2 : w.cell? ⟨lb, 2, none⟩ = some (.map none) := (blk_cell hl 2).trans hg
  have s0 : IntKind.i64.wrap ((P : Int) - 4) = (P : Int) - 4 := IntWalk.i64_in _ (by omega)
  have s1 : IntKind.i64.wrap ((P : Int) - 4 + 1) = (P : Int) - 3 + ((0 : Nat) : Int) := (IntWalk.i64_in _ (by omega)).trans (by omega)
  have s2 : IntKind.i64.wrap ((P : Int) + 4) = (P : Int) + 4 := IntWalk.i64_in _ (by omega)
  have b1 : decide ((P : Int) - 3 < (P : Int) + 4) = true := decide_eq_true (by omega)
  have hlen := Maps.len_nil (P := Try.prog) (w := w) Try.underlying57 3
  clear hl hg
  go_enter Try.func20, Try.ntmps20
  go_wp2
  refine wp_loop_rounds 1 ?_
  rw [rounds_succ]
  go_wp2
  refine bodyPost_end (v := .tuple #[]) (by simp [results, Try.results20, go_sem]) rfl ?_
  exact ⟨rfl, rfl⟩
/-- what a method leaves alone: blocks of all types but those of an object's -/
def store_Kept (w w' : World) : Prop := ∀ (k : Nat) (cs : Array Value) (t : TypeId), w.heap[k]? = some (.cells cs t (0, 0)) → t ≠ 59 → t ≠ 5 → t ≠ 4 → w'.heap[k]? = some (.cells cs t (0, 0))
theorem store_Kept.trans {w w1 w2 : World} (h : store_Kept w w1) (k : store_Kept w1 w2) : store_Kept w w2 := fun i cs t a b c d => k i cs t (h i cs t a b c d) b c d
theorem store_Kept.below {w w1 : World} (h : Below w.heap.size w w1) : store_Kept w w1 := fun _ _ _ a _ _ _ => blk_below a h
theorem store_Kept.grown {w w1 : World} {b : Nat} (h : w.grownBy w1 (some b)) (hb : ∀ cs t, w.heap[b]? ≠ some (.cells cs t (0, 0))) : store_Kept w w1 := fun k cs t a _ _ _ => blk_grown a h (fun e => by injection e with e; subst e; exact hb cs t a)
theorem store_Kept.set {w : World} {g i : Nat} {cs : Array Value} {t : TypeId} (h : w.heap[g]? = some (.cells cs t (0, 0))) (ht : t = 59 ∨ t = 5 ∨ t = 4) (u : Value) : store_Kept w (w.setCell ⟨g, i, none⟩ u) := fun k cs' t' a b c d => blk_far a (by
  intro e
  simp only at e; subst e
  rw [h] at a
  injection a with a; injection a with _ a _
  rcases ht with ht | ht | ht <;> subst ht <;> simp_all) u
/-- a memory of one object that is there: its blocks, all of them younger than the world w0 -/
structure store_Ob (w0 w : World) (sb lb cap db tb n : Nat) (mp : Option Nat) (m : Nat) (g : Int → S24) (data : List Int) (set : List Bool) : Prop where
  s : w.heap[sb]? = some (.cells #[.slice (some ⟨lb, 0, none⟩) 1 cap] 53 (0, 0))
  l : ∃ cs : Array Value, w.heap[lb]? = some (.cells cs 59 (0, 0)) ∧ cs[0]? = some (.slice (some ⟨db, 0, none⟩) n n) ∧ cs[1]? = some (.slice (some ⟨tb, 0, none⟩) n n) ∧ cs[2]? = some (.map mp) ∧ cs[3]? = some (.bool false)
  d : w.heap[db]? = some (.cells (nums .u8 data).toArray 5 (0, 0))
  t : w.heap[tb]? = some (.cells (bools set).toArray 4 (0, 0))
  dl : data.length = n
  tl : set.length = n
  p : (mp = none ∧ g = fun _ => z24) ∨ ∃ b, mp = some b ∧ w0.heap.size ≤ b ∧ store_Map w b m g
  bs : w0.heap.size ≤ sb
  bl : w0.heap.size ≤ lb
  bd : w0.heap.size ≤ db
  bt : w0.heap.size ≤ tb
  below : Below w0.heap.size w0 w
theorem store_Ob.step {w0 w w' : World} {sb lb cap db tb n m : Nat} {mp : Option Nat} {g : Int → S24} {data : List Int} {set : List Bool} (h : store_Ob w0 w sb lb cap db tb n mp m g data set) (hb : Below w.heap.size w w') : store_Ob w0 w' sb lb cap db tb n mp m g data set where
  s := blk_below h.s hb
  l := by obtain ⟨cs, h1, h2⟩ := h.l; exact ⟨cs, blk_below h1 hb, h2⟩
  d := blk_below h.d hb
  t := blk_below h.t hb
  dl := h.dl
  tl := h.tl
  p := by
    rcases h.p with h1 | ⟨b, h1, h2, h3⟩
    · exact .inl h1
    · refine .inr ⟨b, h1, h2, h3.below (hb.block b ?_)⟩
      obtain ⟨D, h4, _⟩ := h3; exact h4.lt
  bs := h.bs
  bl := h.bl
  bd := h.bd
  bt := h.bt
  below := below_step h.below hb
end Go.Proofs.Ytplafnaocgifoaa.St
