/- FlowK: functions of the program walked by hand, and what they come to. -/
import Derived.Test.YtppanpboejpmjaaProg
import Derived.Below
import Derived.Deep.Draws
import Derived.Deep.AppendLies
import Derived.Maps.AppendAt
import Derived.OwnWalk
import Derived.Laws.BytesArg
import Derived.Laws.MakeOwn
import Derived.Laws.OwnMore
import Derived.Deep.OwnRows
import Derived.Tactics
import Derived.Lib.ConvBytes
import Derived.Laws.Slices
import Derived.WalkKit
import Derived.KernelRfl
import Derived.RowKit3
import Derived.Deep.LoopGhost
import Derived.Deep.QuietTactic
import Derived.BigQuiet
import Derived.WideLaws
import Derived.Deep.DeepCutAuto
import Derived.Deep.CutBlock
import Derived.Deep.RegionHeld3
import Derived.Laws.Rows
import Derived.Lib.AppendStr
import Derived.ArgAppend
import Derived.Laws.IdiomCopy
import Derived.OrdersHeld
import Derived.Laws.BitsLemmas
import Derived.RowKit
import Derived.Shelf.SlicesE.DeleteFunc
import Derived.Test.YtppanpboejpmjaaWWords
import Derived.Test.YtppanpboejpmjaaWLast
import Derived.Test.YtppanpboejpmjaaWTab
import Derived.Test.YtppanpboejpmjaaWFour
import Derived.Test.YtppanpboejpmjaaWQPut
import Derived.Test.YtppanpboejpmjaaWApart
import Derived.Test.YtppanpboejpmjaaWArr
import Derived.Test.YtppanpboejpmjaaWZeros
import Derived.Test.YtppanpboejpmjaaWFoot
import Derived.Test.YtppanpboejpmjaaWKept
import Derived.Test.YtppanpboejpmjaaWShare
import Derived.Test.YtppanpboejpmjaaWN
import Derived.Test.YtppanpboejpmjaaWFootNe
import Derived.Test.YtppanpboejpmjaaWAt
import Derived.Test.YtppanpboejpmjaaWEqStruct
import Derived.Test.YtppanpboejpmjaaWRepsOne
import Derived.Test.YtppanpboejpmjaaWInv
import Derived.Test.YtppanpboejpmjaaWInvWords
import Derived.Test.YtppanpboejpmjaaWGuard
import Derived.Test.YtppanpboejpmjaaWNEv
import Derived.Test.YtppanpboejpmjaaWMore
import Derived.Test.YtppanpboejpmjaaTr0
import Derived.Test.YtppanpboejpmjaaFlowW
import Derived.Test.YtppanpboejpmjaaTr3
import Derived.Deep.OwnRows
import Derived.Outline
set_option linter.all false
namespace Go.Proofs.Ytppanpboejpmjaa.Tr
open Go.RowKit Go.Proofs.YtppanpboejpmjaaW.PrintWords Go.Proofs.YtppanpboejpmjaaW.PrintLast Go.Proofs.YtppanpboejpmjaaW.PrintMore
set_option linter.unusedVariables false
section
variable {P : Program} {ops : Array Oper} {o : Oper} {a : Act} {Q : Exit → Act → World → Prop} {K : Act → World → Prop}
/-- a make of a row, as a step of a region that draws its order -/
theorem flow_step_make {w : World} (hw : Region.wanted o (yielded ops a.tmps) = true) (x : Operand) (t e : TypeId) (z : Value) (bytes : Nat) (ho : o.op = .makeSlice t x x)
    (ht : P.underlying t = some (.slice e)) (hinfo : (P.info? e).map (fun i => (i.zero, i.size, i.bytes)) = some (some z, 1, bytes)) (hz1 : z.cells = #[z])
    (n : Nat) (hx : a.eval x = .int .i64 (n : Int)) (hbytes : bytes * n ≤ 281474976710656) (h63 : n ≤ 9223372036854775807)
    (h : K (a.put o.dst (.slice (some ⟨w.heap.size, 0, none⟩) n n)) (w.alloc (.cells (madeCells #[z] n) e))) :
    if Region.wanted o (yielded ops a.tmps) = true then Oper.wp P o a w K Q else K (a.put o.dst undef) w := by
  refine Go.Proofs.YtppanpboejpmjaaW.PrintLast.value_ hw rfl ?_ h
  have hr := run_make_row' (P := P) t e z bytes ht hinfo hz1 .i64 .i64 n hbytes h63 w
  unfold execOp
  simp only [ho, hx, Sem.run_bind, hr, Result.andThen_ok, Sem.run_pure]
/-- a row of one element, as a step of a region that draws its order -/
theorem flow_step_row1 {w : World} (hw : Region.wanted o (yielded ops a.tmps) = true) (x : Operand) (t e : TypeId) (z : Value) (bytes : Nat) (ho : o.op = .buildSlice t 1 #[(0, x)])
    (ht : P.underlying t = some (.slice e)) (hinfo : (P.info? e).map (fun i => (i.zero, i.size, i.bytes)) = some (some z, 1, bytes)) (hz1 : z.cells = #[z])
    (v : Value) (hx : a.eval x = v) (hv : v.cells = #[v]) (hrun : ∀ w : World, (execOp a.eval o).run P w = .ok (.value (.slice (some ⟨w.heap.size, 0, none⟩) 1 1)) (w.alloc (.cells #[v] e)))
    (h : K (a.put o.dst (.slice (some ⟨w.heap.size, 0, none⟩) 1 1)) (w.alloc (.cells #[v] e))) :
    if Region.wanted o (yielded ops a.tmps) = true then Oper.wp P o a w K Q else K (a.put o.dst undef) w := Go.Proofs.YtppanpboejpmjaaW.PrintLast.value_ hw rfl (hrun w) h
end
theorem grown_then {w w1 w2 : World} {row : Option Nat} (h : w.grownBy w1 row) (k : Below w1.heap.size w1 w2) : w.grownBy w2 row :=
  ⟨k.os.trans h.os, k.tape.trans h.tape, k.output.trans h.output, Nat.le_trans h.size k.size, fun j hj hn => (k.block j (Nat.lt_of_lt_of_le hj h.size)).trans (h.block j hj hn)⟩
theorem below_grown_then {w w1 w2 : World} {row : Option Nat} (h : Below w.heap.size w w1) (k : w1.grownBy w2 row) : w.grownBy w2 row :=
  ⟨k.os.trans h.os, k.tape.trans h.tape, k.output.trans h.output, Nat.le_trans h.size k.size, fun j hj hn => (k.block j (Nat.lt_of_lt_of_le hj h.size) hn).trans (h.block j hj)⟩
/-- where the two rows and the two appends of Live's first loop stand: a of three steps on the one side, b of two on the other -/
structure flow_L4 (w0 wr : World) (n i : Nat) (vi : Value) (xs : List Value) (a b : Nat) (g1 h1 : Nat) (v1 : Value) (g2 h2 : Nat) (w' : World) : Prop where
  below : Below w0.heap.size w0 w'
  lo : a < 3 → Below wr.heap.size wr w'
  hi : wr.grownBy w' vi.ownBlock
  g1F : 1 ≤ a → wr.heap.size ≤ g1 ∧ w'.heap[g1]? = some (.cells (bools (List.replicate n false)).toArray 4 (0, 0))
  h1F : a = 2 → wr.heap.size ≤ h1 ∧ w'.heap[h1]? = some (.cells #[.slice (some ⟨g1, 0, none⟩) n n] 41 (0, 0))
  v1F : a = 3 → w'.ownsRow w0.heap.size 41 1 v1 (i + 1) (xs ++ [.slice (some ⟨g1, 0, none⟩) n n]) ∧ (v1.ownBlock = vi.ownBlock ∨ ∃ k, v1.ownBlock = some k ∧ wr.heap.size ≤ k)
  g2F : 1 ≤ b → wr.heap.size ≤ g2 ∧ w'.heap[g2]? = some (.cells (bools (List.replicate n false)).toArray 4 (0, 0))
  h2F : b = 2 → wr.heap.size ≤ h2 ∧ w'.heap[h2]? = some (.cells #[.slice (some ⟨g2, 0, none⟩) n n] 41 (0, 0))
  ne : 1 ≤ a → 1 ≤ b → g1 ≠ g2
theorem flow_L4.start {w0 wr : World} {n i : Nat} {vi v1 : Value} {xs : List Value} {g1 h1 g2 h2 : Nat} (h : Below w0.heap.size w0 wr) : flow_L4 w0 wr n i vi xs 0 0 g1 h1 v1 g2 h2 wr.drew where
  below := below_drew h
  lo := fun _ => below_drew (Below.refl _ _)
  hi := ⟨rfl, rfl, rfl, Nat.le_refl _, fun _ _ _ => rfl⟩
  g1F := fun h => by omega
  h1F := fun h => by omega
  v1F := fun h => by omega
  g2F := fun h => by omega
  h2F := fun h => by omega
  ne := fun h => by omega
theorem flow_L4.step {w0 wr w' w2 : World} {n i a b : Nat} {vi v1 : Value} {xs : List Value} {g1 h1 g2 h2 : Nat} (h : flow_L4 w0 wr n i vi xs a b g1 h1 v1 g2 h2 w') (k : Below w'.heap.size w' w2) : flow_L4 w0 wr n i vi xs a b g1 h1 v1 g2 h2 w2 where
  below := below_step h.below k
  lo := fun e => below_step (h.lo e) k
  hi := grown_then h.hi k
  g1F := fun e => ⟨(h.g1F e).1, blk_below (h.g1F e).2 k⟩
  h1F := fun e => ⟨(h.h1F e).1, blk_below (h.h1F e).2 k⟩
  v1F := fun e => ⟨own_other (h.v1F e).1 (grown_below k) (by simp), (h.v1F e).2⟩
  g2F := fun e => ⟨(h.g2F e).1, blk_below (h.g2F e).2 k⟩
  h2F := fun e => ⟨(h.h2F e).1, blk_below (h.h2F e).2 k⟩
  ne := h.ne
theorem flow_made (n : Nat) : madeCells #[.bool false] n = (bools (List.replicate n false)).toArray := by
  apply Array.ext'
  rw [toList_madeCells_one]; simp [bools]
theorem flow_L4.make1 {w0 wr w' : World} {n i b : Nat} {vi v1 : Value} {xs : List Value} {g1 h1 g2 h2 : Nat} (h : flow_L4 w0 wr n i vi xs 0 b g1 h1 v1 g2 h2 w') : flow_L4 w0 wr n i vi xs 1 b w'.heap.size h1 v1 g2 h2 (w'.alloc (.cells (madeCells #[.bool false] n) 4)) := by
  have s := h.step (below_alloc (Below.refl _ _) (.cells (madeCells #[.bool false] n) 4))
  refine ⟨s.below, fun _ => s.lo (by omega), s.hi, fun _ => ⟨h.hi.size, ?_⟩, fun e => by omega, fun e => by omega, s.g2F, s.h2F, fun _ hb e => ?_⟩
  · rw [flow_made]; exact blk_new _ _
  · have := blk_lt (h.g2F hb).2; omega
theorem flow_L4.make2 {w0 wr w' : World} {n i a : Nat} {vi v1 : Value} {xs : List Value} {g1 h1 g2 h2 : Nat} (h : flow_L4 w0 wr n i vi xs a 0 g1 h1 v1 g2 h2 w') : flow_L4 w0 wr n i vi xs a 1 g1 h1 v1 w'.heap.size h2 (w'.alloc (.cells (madeCells #[.bool false] n) 4)) := by
  have s := h.step (below_alloc (Below.refl _ _) (.cells (madeCells #[.bool false] n) 4))
  refine ⟨s.below, s.lo, s.hi, s.g1F, s.h1F, s.v1F, fun _ => ⟨h.hi.size, ?_⟩, fun e => by omega, fun ha _ e => ?_⟩
  · rw [flow_made]; exact blk_new _ _
  · have := blk_lt (h.g1F ha).2; omega
theorem flow_L4.row1 {w0 wr w' : World} {n i b : Nat} {vi v1 : Value} {xs : List Value} {g1 h1 g2 h2 : Nat} (h : flow_L4 w0 wr n i vi xs 1 b g1 h1 v1 g2 h2 w') : flow_L4 w0 wr n i vi xs 2 b g1 w'.heap.size v1 g2 h2 (w'.alloc (.cells #[.slice (some ⟨g1, 0, none⟩) n n] 41)) := by
  have s := h.step (below_alloc (Below.refl _ _) (.cells #[.slice (some ⟨g1, 0, none⟩) n n] 41))
  exact ⟨s.below, fun _ => s.lo (by omega), s.hi, fun _ => s.g1F (by omega), fun _ => ⟨h.hi.size, blk_new _ _⟩, fun e => by omega, s.g2F, s.h2F, fun _ => s.ne (by omega)⟩
theorem flow_L4.row2 {w0 wr w' : World} {n i a : Nat} {vi v1 : Value} {xs : List Value} {g1 h1 g2 h2 : Nat} (h : flow_L4 w0 wr n i vi xs a 1 g1 h1 v1 g2 h2 w') : flow_L4 w0 wr n i vi xs a 2 g1 h1 v1 g2 w'.heap.size (w'.alloc (.cells #[.slice (some ⟨g2, 0, none⟩) n n] 41)) := by
  have s := h.step (below_alloc (Below.refl _ _) (.cells #[.slice (some ⟨g2, 0, none⟩) n n] 41))
  exact ⟨s.below, s.lo, s.hi, s.g1F, s.h1F, s.v1F, fun _ => s.g2F (by omega), fun _ => ⟨h.hi.size, blk_new _ _⟩, fun ha _ => s.ne ha (by omega)⟩
theorem own_lt {w : World} {base e size n : Nat} {v : Value} {xs : List Value} (h : w.ownsRow base e size v n xs) : ∀ k, v.ownBlock = some k → k < w.heap.size := by
  intro k hk
  obtain ⟨_, ⟨ev, h2⟩ | ⟨g, cap, cur, ev, h2, h3, h4⟩⟩ := h
  · subst ev; cases hk
  · subst ev
    have : g = k := by injection hk
    subst this; exact blk_lt h3
theorem flow_L4.app1 {w0 wr w' w2 : World} {n i b : Nat} {vi v1 v2 : Value} {xs : List Value} {g1 h1 g2 h2 : Nat} (h : flow_L4 w0 wr n i vi xs 2 b g1 h1 v1 g2 h2 w') (hvi : wr.ownsRow w0.heap.size 41 1 vi i xs)
    (ho : w2.ownsRow w0.heap.size 41 1 v2 (i + 1) (xs ++ [.slice (some ⟨g1, 0, none⟩) n n])) (hB : Below w0.heap.size w0 w2) (hg : w'.grownBy w2 vi.ownBlock) (hat : v2.ownBlock = vi.ownBlock ∨ v2.ownBlock = some w'.heap.size) : flow_L4 w0 wr n i vi xs 3 b g1 h1 v2 g2 h2 w2 := by
  have hlt := own_lt hvi
  have far : ∀ {g : Nat} {o : Obj}, wr.heap.size ≤ g → w'.heap[g]? = some o → w2.heap[g]? = some o := fun hge hb => blk_other hb hg (fun e => by have := hlt _ e.symm; omega)
  refine ⟨hB, fun e => by omega, below_grown_then (h.lo (by omega)) hg, fun _ => ⟨(h.g1F (by omega)).1, far (h.g1F (by omega)).1 (h.g1F (by omega)).2⟩, fun e => by omega, fun _ => ⟨ho, ?_⟩, fun e => ⟨(h.g2F e).1, far (h.g2F e).1 (h.g2F e).2⟩, fun e => ⟨(h.h2F e).1, far (h.h2F e).1 (h.h2F e).2⟩, fun _ => h.ne (by omega)⟩
  rcases hat with hat | hat
  · exact .inl hat
  · exact .inr ⟨_, hat, h.hi.size⟩
/-- both rows longer by one -/
theorem flow_L4.app2 {w0 wr w' w2 : World} {n i : Nat} {vi vo v1 v2 : Value} {Gi Go : List Nat} {g1 h1 g2 h2 : Nat} (hL : flow_Lv w0 wr vi vo Gi Go (List.replicate i (List.replicate n false)) (List.replicate i (List.replicate n false)) n)
    (hgi : Gi.length = i) (hgo : Go.length = i) (h : flow_L4 w0 wr n i vi (Gi.map fun g => .slice (some ⟨g, 0, none⟩) n n) 3 2 g1 h1 v1 g2 h2 w')
    (ho : w2.ownsRow w0.heap.size 41 1 v2 (i + 1) ((Go.map fun g => .slice (some ⟨g, 0, none⟩) n n) ++ [.slice (some ⟨g2, 0, none⟩) n n])) (hB : Below w0.heap.size w0 w2) (hg : w'.grownBy w2 vo.ownBlock) (hat : v2.ownBlock = vo.ownBlock ∨ v2.ownBlock = some w'.heap.size) :
    flow_Lv w0 w2 v1 v2 (Gi ++ [g1]) (Go ++ [g2]) (List.replicate (i + 1) (List.replicate n false)) (List.replicate (i + 1) (List.replicate n false)) n := by
  have hvi := hL.oi
  have hvo := hL.oo
  rw [hgi] at hvi
  rw [hgo] at hvo
  have hlti := own_lt hvi
  have hlto := own_lt hvo
  have hge := h.hi.size
  have hge2 := hg.size
  obtain ⟨hv1, hat1⟩ := h.v1F rfl
  obtain ⟨hg1, hb1⟩ := h.g1F (by omega)
  obtain ⟨hg2, hb2⟩ := h.g2F (by omega)
  have n1 : ∀ k, v1.ownBlock = some k → vo.ownBlock ≠ some k := by
    intro k hk he
    rcases hat1 with e | ⟨j, e, hj⟩
    · exact hL.io k (by rw [← e]; exact hk) he
    · have : j = k := by rw [e] at hk; injection hk
      have := hlto k he
      omega
  have old : ∀ {g : Nat} {l : List Bool}, wr.heap[g]? = some (.cells (bools l).toArray 4 (0, 0)) → w2.heap[g]? = some (.cells (bools l).toArray 4 (0, 0)) := by
    intro g l hb
    have hb' := blk_other hb h.hi (fun e => own_ne_type hvi hb (by decide) g e.symm rfl)
    exact blk_other hb' hg (fun e => own_ne_type hvo hb (by decide) g e.symm rfl)
  have new1 : ∀ {g : Nat} {o : Obj}, wr.heap.size ≤ g → w'.heap[g]? = some o → w2.heap[g]? = some o := fun hge hb => blk_other hb hg (fun e => by have := hlto _ e.symm; omega)
  have row : ∀ {G : List Nat} {I : List (List Bool)} {g1 : Nat}, G.length = i → I = List.replicate i (List.replicate n false) → (∀ (i g : Nat) (l : List Bool), G[i]? = some g → I[i]? = some l → l.length = n ∧ wr.heap[g]? = some (.cells (bools l).toArray 4 (0, 0))) → w2.heap[g1]? = some (.cells (bools (List.replicate n false)).toArray 4 (0, 0)) → ∀ (j g : Nat) (l : List Bool), (G ++ [g1])[j]? = some g → (List.replicate (i + 1) (List.replicate n false))[j]? = some l → l.length = n ∧ w2.heap[g]? = some (.cells (bools l).toArray 4 (0, 0)) := by
    intro G I gx hG hI hr hbx j g l hj hl
    subst hI
    have hl' : l = List.replicate n false := by
      rw [List.getElem?_replicate] at hl
      by_cases hji : j < i + 1
      · rw [if_pos hji] at hl; injection hl with hl; exact hl.symm
      · rw [if_neg hji] at hl; cases hl
    subst hl'
    rw [List.getElem?_append] at hj
    by_cases hji : j < G.length
    · rw [if_pos hji] at hj
      have h1 := hr j g (List.replicate n false) hj (by rw [List.getElem?_replicate, if_pos (by omega)])
      exact ⟨h1.1, old h1.2⟩
    · rw [if_neg hji] at hj
      have h0 : j - G.length = 0 := by
        have := (List.getElem?_eq_some_iff.1 hj).1
        simp at this; omega
      rw [h0] at hj
      have : gx = g := by simpa using hj
      subst this
      exact ⟨List.length_replicate .., hbx⟩
  refine ⟨?_, ?_, by simp [hgi], by simp [hgo], row hgi rfl hL.ri (new1 hg1 hb1), row hgo rfl hL.ro (new1 hg2 hb2), ?_, ?_, ?_, hB⟩
  · have := own_other hv1 hg (fun k hk e => n1 k hk e.symm)
    rw [List.length_append, List.map_append, hgi]; exact this
  · rw [List.length_append, List.map_append, hgo]; exact ho
  · have hlo : ∀ g, g ∈ Gi ++ Go → g < wr.heap.size := fun g hg => (hL.gi g hg).2
    have hnd := List.nodup_append.1 hL.nd
    have hne := h.ne (by omega) (by omega)
    rw [List.nodup_append]
    refine ⟨?_, ?_, ?_⟩
    · rw [List.nodup_append]
      exact ⟨hnd.1, by simp, fun a ha b hb e => by
        simp only [List.mem_singleton] at hb
        have := hlo a (List.mem_append_left _ ha); omega⟩
    · rw [List.nodup_append]
      exact ⟨hnd.2.1, by simp, fun a ha b hb e => by
        simp only [List.mem_singleton] at hb
        have := hlo a (List.mem_append_right _ ha); omega⟩
    · intro a ha b hb e
      rw [List.mem_append, List.mem_singleton] at ha hb
      rcases ha with ha | ha <;> rcases hb with hb | hb
      · exact hnd.2.2 a ha b hb e
      · have := hlo a (List.mem_append_left _ ha); omega
      · have := hlo b (List.mem_append_right _ hb); omega
      · omega
  · intro g hg'
    have : g ∈ Gi ++ Go ∨ g = g1 ∨ g = g2 := by
      simp only [List.mem_append, List.mem_singleton] at hg' ⊢
      rcases hg' with (h | h) | (h | h) <;> simp [h]
    rcases this with hm | rfl | rfl
    · have := hL.gi g hm; omega
    · have h1 := blk_lt hb1
      have h2 := hL.below.size
      omega
    · have h1 := blk_lt hb2
      have h2 := hL.below.size
      omega
  · intro k hk e
    rcases hat with e2 | e2
    · exact n1 k hk (e2.symm.trans e)
    · have := own_lt hv1 k hk
      have : w'.heap.size = k := by rw [e2] at e; injection e
      omega
theorem flow_L4.own1 {w0 wr w' : World} {n i b : Nat} {vi v1 : Value} {xs : List Value} {g1 h1 g2 h2 : Nat} (h : flow_L4 w0 wr n i vi xs 2 b g1 h1 v1 g2 h2 w') (hvi : wr.ownsRow w0.heap.size 41 1 vi i xs) : w'.ownsRow w0.heap.size 41 1 vi i xs := own_other hvi (grown_below (h.lo (by omega))) (by simp)
theorem flow_L4.own2 {w0 wr w' : World} {n i : Nat} {vi vo v1 : Value} {I O : List (List Bool)} {Gi Go : List Nat} {g1 h1 g2 h2 : Nat} {xs ys : List Value} (hL : flow_Lv w0 wr vi vo Gi Go I O n) (h : flow_L4 w0 wr n i vi xs 3 2 g1 h1 v1 g2 h2 w') (hvi : wr.ownsRow w0.heap.size 41 1 vi i xs) (hvo : wr.ownsRow w0.heap.size 41 1 vo i ys) : w'.ownsRow w0.heap.size 41 1 vo i ys := own_other hvo h.hi (fun k hk e => hL.io k e.symm hk)
theorem flow_info41 : (Try.prog.info? 41).map (fun i => (i.zero, i.size, i.bytes)) = some (some (.slice none 0 0), 1, 24) := by kernel_rfl
/-! what Live comes to -/
def flow_Live.bf (k : Nat) (b : List Bool) (x : S84) : Option (List Bool) := flow_before.f k b x.f0 x.f1 x.f2 x.f3 x.f4 x.f5 x.f6 x.f7 x.f8 x.f9 x.f10
def flow_Live.ins (k : Nat) (l : List S84) (b : List Bool) : Option (List Bool) := l.reverse.foldlM (flow_Live.bf k) b
def flow_Live.jf (k : Nat) (I : List (List Bool)) (b : List Bool) (t : Int) : Option (List Bool) := if 0 ≤ t ∧ t < (I.length : Int) then (flow_join.f k b (I.getD t.toNat [])).map (fun x => x.2) else none
def flow_Live.js (k : Nat) (I : List (List Bool)) (o : List Int) (b : List Bool) : Option (List Bool) := o.foldlM (flow_Live.jf k I) b
def flow_Live.one (k : Nat) (a0 : ByteArray) (a1 : Bool) (a2 a3 : Int) (l4 : List S76) (l5 : List S45) (n : Nat) (x : List (List Bool) × List (List Bool) × Bool) : Option (List (List Bool) × List (List Bool) × Bool) :=
  (flow_outs.f k a0 a1 a2 a3 l4 l5 (n : Int)).bind fun o => (flow_Live.js k x.1 o (x.2.1.getD n [])).bind fun b => (flow_Live.ins k (rd_T45 l5 (n : Int)).f0 b).bind fun live => (flow_join.f k (x.1.getD n []) live).bind fun y => some (x.1.set n y.2, x.2.1.set n b, y.1 || x.2.2)
def flow_Live.rnd (k : Nat) (a0 : ByteArray) (a1 : Bool) (a2 a3 : Int) (l4 : List S76) (l5 : List S45) : Nat → List (List Bool) × List (List Bool) × Bool → Option (List (List Bool) × List (List Bool) × Bool)
  | 0, x => some x
  | n + 1, x => (flow_Live.one k a0 a1 a2 a3 l4 l5 n x).bind fun y => flow_Live.rnd k a0 a1 a2 a3 l4 l5 n y
def flow_Live.lp (k : Nat) (a0 : ByteArray) (a1 : Bool) (a2 a3 : Int) (l4 : List S76) (l5 : List S45) : Nat → List (List Bool) → List (List Bool) → Option (List (List Bool) × List (List Bool))
  | 0, _, _ => none
  | f + 1, I, O => (flow_Live.rnd k a0 a1 a2 a3 l4 l5 l5.length (I, O, false)).bind fun y => if y.2.2 = true then flow_Live.lp k a0 a1 a2 a3 l4 l5 f y.1 y.2.1 else some (y.1, y.2.1)
def flow_Live.ends (l5 : List S45) (n : Nat) : Option (List (List Bool)) := l5.mapM (fun b => flow_ended.f (List.replicate n false) b.f0 b.f1 b.f2 b.f3 b.f4)
def flow_Live.f (k : Nat) (a0 : ByteArray) (a1 : Bool) (a2 a3 : Int) (l4 : List S76) (l5 : List S45) : Option (List (List Bool) × List (List Bool)) :=
  if l5.length ≤ 4000000000 ∧ a3 ≤ 4000000000 ∧ ∀ x ∈ l5, x.f0.length ≤ 4000000000 then (flow_Live.ends l5 (max a3 0).toNat).bind fun O => flow_Live.lp k a0 a1 a2 a3 l4 l5 k (List.replicate l5.length (List.replicate (max a3 0).toNat false)) O else none
end Go.Proofs.Ytppanpboejpmjaa.Tr
