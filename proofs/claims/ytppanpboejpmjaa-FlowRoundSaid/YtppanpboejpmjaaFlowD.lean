/- FlowD: functions of the program walked by hand, and what they come to. -/
import Derived.Test.YtppanpboejpmjaaProg
import Derived.Below
import Derived.Deep.Draws
import Derived.Deep.AppendLies
import Derived.Maps.AppendAt
import Derived.OwnWalk
import Derived.Laws.BytesArg
import Derived.Laws.MakeOwn
import Derived.Laws.OwnMore
import Derived.Deep.OwnRows
import Derived.Tactics
import Derived.Lib.ConvBytes
import Derived.Laws.Slices
import Derived.WalkKit
import Derived.KernelRfl
import Derived.RowKit3
import Derived.Deep.LoopGhost
import Derived.Deep.QuietTactic
import Derived.BigQuiet
import Derived.WideLaws
import Derived.Deep.DeepCutAuto
import Derived.Deep.CutBlock
import Derived.Deep.RegionHeld3
import Derived.Laws.Rows
import Derived.Lib.AppendStr
import Derived.ArgAppend
import Derived.Laws.IdiomCopy
import Derived.OrdersHeld
import Derived.Laws.BitsLemmas
import Derived.RowKit
import Derived.Shelf.SlicesE.DeleteFunc
import Derived.Test.YtppanpboejpmjaaWWords
import Derived.Test.YtppanpboejpmjaaWLast
import Derived.Test.YtppanpboejpmjaaWTab
import Derived.Test.YtppanpboejpmjaaWFour
import Derived.Test.YtppanpboejpmjaaWQPut
import Derived.Test.YtppanpboejpmjaaWApart
import Derived.Test.YtppanpboejpmjaaWArr
import Derived.Test.YtppanpboejpmjaaWZeros
import Derived.Test.YtppanpboejpmjaaWFoot
import Derived.Test.YtppanpboejpmjaaWKept
import Derived.Test.YtppanpboejpmjaaWShare
import Derived.Test.YtppanpboejpmjaaWN
import Derived.Test.YtppanpboejpmjaaWFootNe
import Derived.Test.YtppanpboejpmjaaWAt
import Derived.Test.YtppanpboejpmjaaWEqStruct
import Derived.Test.YtppanpboejpmjaaWRepsOne
import Derived.Test.YtppanpboejpmjaaWInv
import Derived.Test.YtppanpboejpmjaaWInvWords
import Derived.Test.YtppanpboejpmjaaWGuard
import Derived.Test.YtppanpboejpmjaaWNEv
import Derived.Test.YtppanpboejpmjaaWMore
import Derived.Test.YtppanpboejpmjaaTr0
import Derived.Test.YtppanpboejpmjaaFlowC
import Derived.Outline
set_option linter.all false
namespace Go.Proofs.Ytppanpboejpmjaa.Tr
open Go.RowKit Go.Proofs.YtppanpboejpmjaaW.PrintWords Go.Proofs.YtppanpboejpmjaaW.PrintLast Go.Proofs.YtppanpboejpmjaaW.PrintMore
set_option linter.unusedVariables false
theorem flow_St.back {w0 w w1 : World} {wb sb : Nat} {p0 p1 p2 p3 p4 p5 vo vb vb' : Value} {st ord : List Int} {back : List (Int × Int)} (h : flow_St w0 w wb sb p0 p1 p2 p3 p4 p5 st vo ord vb back) (n m : Int) (ho : w1.ownsRow w0.heap.size 52 2 vb' (back.length + 1) ((back.flatMap fun x => [.int .i64 x.1, .int .i64 x.2]) ++ [.int .i64 n, .int .i64 m])) (hg : w.grownBy w1 vb.ownBlock) (hB : Below w0.heap.size w0 w1) : flow_St w0 (w1.setCell ⟨wb, 8, none⟩ vb') wb sb p0 p1 p2 p3 p4 p5 st vo ord vb' (back ++ [(n, m)]) := by
  have hne : ∀ (g : Nat) (cs : Array Value) (t : TypeId), w.heap[g]? = some (.cells cs t (0, 0)) → 52 ≠ t → some g ≠ vb.ownBlock := fun g cs t hb ht he => own_ne_type h.b hb ht g he.symm rfl
  have hs1 := blk_other h.s hg (hne _ _ _ h.s (by decide))
  have hd1 := blk_other h.d hg (hne _ _ _ h.d (by decide))
  have ho1 := own_other h.o hg (own_ne_own h.o h.b (by decide))
  refine ⟨blk_put hs1 8 _ rfl, blk_far hd1 (p := ⟨wb, 8, none⟩) (blk_ne hd1 hs1 (by decide)) _, own_other ho1 (grown_set w1 wb 8 _) (own_ne_type ho1 hs1 (by decide)), ?_, h.no, h.gw, h.gs, below_set hB h.gw⟩
  rw [List.length_append, List.flatMap_append]
  have := own_other ho (grown_set w1 wb 8 vb') (own_ne_type ho hs1 (by decide))
  simpa using this
theorem flow_Sk.back {w0 w w1 : World} {wb sb : Nat} {p0 p1 p2 p3 p4 p5 vo vb vb' vs : Value} {st ord : List Int} {back : List (Int × Int)} {S : List (Int × Value)} {L : List (Int × List Int)} (k : flow_Sk w0 w sb vo vs S L) (h : flow_St w0 w wb sb p0 p1 p2 p3 p4 p5 st vo ord vb back) (hg : w.grownBy w1 vb.ownBlock) : flow_Sk w0 (w1.setCell ⟨wb, 8, none⟩ vb') sb vo vs S L := by
  have hs1 := blk_other h.s hg (fun he => own_ne_type h.b h.s (by decide) wb he.symm rfl)
  have k1 : flow_Sk w0 w1 sb vo vs S L := k.other hg (own_ne_own k.t h.b (by decide)) (fun g cs e2 _ _ he => own_ne_type h.b e2 (by decide) g he.symm rfl)
  exact k1.other (grown_set w1 wb 8 vb') (own_ne_type k1.t hs1 (by decide)) (fun g cs e2 _ _ he => by
    injection he with he; subst he
    rw [hs1] at e2; injection e2 with e2; injection e2 with _ e2 _; exact absurd e2 (by decide))
/-- what the stack's own changes leave of the rest -/
theorem flow_St.stack {w0 w w1 : World} {wb sb : Nat} {p0 p1 p2 p3 p4 p5 vo vb vs : Value} {st ord : List Int} {back : List (Int × Int)} {S : List (Int × Value)} {L : List (Int × List Int)} (h : flow_St w0 w wb sb p0 p1 p2 p3 p4 p5 st vo ord vb back) (k : flow_Sk w0 w sb vo vs S L) (hg : w.grownBy w1 vs.ownBlock) (hB : Below w0.heap.size w0 w1) : flow_St w0 w1 wb sb p0 p1 p2 p3 p4 p5 st vo ord vb back :=
  h.other hg (fun he => own_ne_type k.t h.s (by decide) wb he.symm rfl) (fun he => own_ne_type k.t h.d (by decide) sb he.symm rfl) (own_ne_own h.o k.t (by decide)) (own_ne_own h.b k.t (by decide)) hB
theorem flow_Row.stack {w0 w w1 : World} {sb : Nat} {vo vs v : Value} {S : List (Int × Value)} {L : List (Int × List Int)} {l : List Int} (k : flow_Sk w0 w sb vo vs S L) (hg : w.grownBy w1 vs.ownBlock) (h : flow_Row w sb vo v l) : flow_Row w1 sb vo v l :=
  h.other hg (fun g cs e2 _ _ he => own_ne_type k.t e2 (by decide) g he.symm rfl)
/-- a block more on the stack -/
theorem flow_Sk.push {w0 w w1 : World} {sb : Nat} {vo vs vs' : Value} {S : List (Int × Value)} {L : List (Int × List Int)} (k : flow_Sk w0 w sb vo vs S L) (n : Int) (v : Value) (l : List Int) (hr : flow_Row w sb vo v l) (ho : w1.ownsRow w0.heap.size 150 2 vs' (S.length + 1) ((S.flatMap fun x => [.int .i64 x.1, x.2]) ++ [.int .i64 n, v])) (hg : w.grownBy w1 vs.ownBlock) : flow_Sk w0 w1 sb vo vs' (S ++ [(n, v)]) (L ++ [(n, l)]) where
  t := by rw [List.length_append, List.flatMap_append]; simpa using ho
  l := by simp [k.l]
  r := by
    intro i x y hx hy
    rw [List.getElem?_append] at hx hy
    rw [k.l] at hx
    by_cases hi : i < L.length
    · rw [if_pos hi] at hx hy
      exact ⟨(k.r i x y hx hy).1, flow_Row.stack k hg (k.r i x y hx hy).2⟩
    · rw [if_neg hi] at hx hy
      have h0 : i - L.length = 0 := by
        have := (List.getElem?_eq_some_iff.1 hx).1
        simp at this; omega
      rw [h0] at hx hy
      simp at hx hy
      subst hx; subst hy
      exact ⟨rfl, flow_Row.stack k hg hr⟩
theorem own_cut {w : World} {base e size n m cap : Nat} {A : Option Addr} {xs : List Value} (h : w.ownsRow base e size (.slice A n cap) n xs) (hm : m ≤ n) (hA : A ≠ none) : w.ownsRow base e size (.slice A m cap) m (xs.take (m * size)) := by
  obtain ⟨h1, ⟨ev, h2⟩ | ⟨g, cap', cur, ev, h2, h3, h4, h5, h6, h7⟩⟩ := h
  · injection ev with ev; exact absurd ev hA
  · injection ev with ev _ ec
    subst ev; subst ec
    refine ⟨?_, .inr ⟨g, cap, cur, rfl, h2, h3, by omega, h5, h6, ?_⟩⟩
    · rw [List.length_take, h1]
      have : m * size ≤ n * size := Nat.mul_le_mul_right _ hm
      omega
    · rw [← h7, List.take_take]
      have : m * size ≤ n * size := Nat.mul_le_mul_right _ hm
      rw [Nat.min_eq_left this]
theorem two_len (S : List (Int × Value)) : (S.flatMap fun x => [Value.int .i64 x.1, x.2]).length = S.length * 2 := by
  induction S with
  | nil => rfl
  | cons a S ih => rw [List.flatMap_cons, List.length_append, ih]; simp; omega
/-- the topmost one is struck -/
theorem flow_Sk.pop {w0 w : World} {sb gb cap : Nat} {vo : Value} {S : List (Int × Value)} {L : List (Int × List Int)} {x : Int × Value} {y : Int × List Int} (k : flow_Sk w0 w sb vo (.slice (some ⟨gb, 0, none⟩) (S ++ [x]).length cap) (S ++ [x]) (L ++ [y])) : flow_Sk w0 w sb vo (.slice (some ⟨gb, 0, none⟩) S.length cap) S L where
  t := by
    have h := own_cut k.t (m := S.length) (by simp) (by simp)
    have e : ((S ++ [x]).flatMap fun x => [Value.int .i64 x.1, x.2]).take (S.length * 2) = S.flatMap fun x => [.int .i64 x.1, x.2] := by
      rw [List.flatMap_append, List.take_append_of_le_length (by rw [two_len]; exact Nat.le_refl _)]
      exact List.take_of_length_le (by rw [two_len]; exact Nat.le_refl _)
    rw [e] at h; exact h
  l := by have := k.l; simpa using this
  r := by
    intro i a b ha hb
    have hi := (List.getElem?_eq_some_iff.1 ha).1
    have hi2 := (List.getElem?_eq_some_iff.1 hb).1
    exact k.r i a b (by rw [List.getElem?_append_left hi]; exact ha) (by rw [List.getElem?_append_left hi2]; exact hb)
/-- the cells of the topmost one -/
theorem flow_Sk.top {w0 w : World} {sb gb cap : Nat} {vo : Value} {S : List (Int × Value)} {L : List (Int × List Int)} {x : Int × Value} (k : flow_Sk w0 w sb vo (.slice (some ⟨gb, 0, none⟩) (S ++ [x]).length cap) (S ++ [x]) L) : w.cell? ⟨gb, S.length * 2, none⟩ = some (.int .i64 x.1) ∧ w.cell? ⟨gb, S.length * 2 + 1, none⟩ = some x.2 ∧ w.frozen? ⟨gb, S.length * 2 + 1, none⟩ = false ∧ S.length < cap ∧ cap ≤ 9223372036854775807 ∧ gb < w.heap.size := by
  obtain ⟨h1, ⟨ev, h2⟩ | ⟨g, cap', cur, ev, h2, h3, h4, h5, h6, h7⟩⟩ := k.t
  · cases ev
  · injection ev with ev en ec
    injection ev with ev; injection ev with ev
    subst ev; subst ec
    have c : ∀ j, j < (S ++ [x]).length * 2 → cur[j]? = ((S ++ [x]).flatMap fun x => [Value.int .i64 x.1, x.2])[j]? := by
      intro j hj
      rw [← h7, List.getElem?_take_of_lt hj, Array.getElem?_toList]
    have hl : (S.flatMap fun x => [Value.int .i64 x.1, x.2]).length = S.length * 2 := two_len S
    refine ⟨?_, ?_, blk_frozen h3 _, by simp at h4; omega, by unfold maxLen at h5; omega, blk_lt h3⟩
    · rw [blk_cell h3, c _ (by simp <;> omega), List.flatMap_append, List.getElem?_append_right (by omega), hl]
      simp
    · rw [blk_cell h3, c _ (by simp <;> omega), List.flatMap_append, List.getElem?_append_right (by omega), hl]
      simp
/-- the topmost one goes on -/
theorem flow_Sk.next {w0 w : World} {sb gb cap : Nat} {vo v : Value} {S : List (Int × Value)} {L : List (Int × List Int)} {x : Int × Value} {y : Int × List Int} (k : flow_Sk w0 w sb vo (.slice (some ⟨gb, 0, none⟩) (S ++ [x]).length cap) (S ++ [x]) (L ++ [y])) (l : List Int) (hr : flow_Row w sb vo v l) : flow_Sk w0 (w.setCell ⟨gb, S.length * 2 + 1, none⟩ v) sb vo (.slice (some ⟨gb, 0, none⟩) (S ++ [(x.1, v)]).length cap) (S ++ [(x.1, v)]) (L ++ [(y.1, l)]) := by
  have hob : (Value.slice (some ⟨gb, 0, none⟩) (S ++ [x]).length cap).ownBlock = some gb := rfl
  have hgr := grown_set w gb (S.length * 2 + 1) v
  have hlen : (S ++ [(x.1, v)]).length = (S ++ [x]).length := by simp
  refine ⟨?_, by have := k.l; simpa using this, ?_⟩
  · obtain ⟨h1, ⟨ev, h2⟩ | ⟨g, cap', cur, ev, h2, h3, h4, h5, h6, h7⟩⟩ := k.t
    · cases ev
    · injection ev with ev en ec
      injection ev with ev; injection ev with ev
      subst ev; subst ec
      refine ⟨by rw [two_len], .inr ⟨gb, cap, _, by rw [hlen], h2, blk_put h3 _ v rfl, by rw [hlen]; exact h4, h5, by simpa using h6, ?_⟩⟩
      rw [hlen]
      have hl : (S.flatMap fun x => [Value.int .i64 x.1, x.2]).length = S.length * 2 := two_len S
      have e : (cur.setIfInBounds (S.length * 2 + 1) v).toList.take ((S ++ [x]).length * 2) = (cur.toList.take ((S ++ [x]).length * 2)).set (S.length * 2 + 1) v := by
        rw [Array.toList_setIfInBounds, List.take_set]
      rw [e, h7, List.flatMap_append, List.flatMap_append, List.set_append_right _ _ (by omega), hl]
      simp
  · intro i a b ha hb
    rw [List.getElem?_append] at ha hb
    have hll : S.length = L.length := by have := k.l; simpa using this
    rw [hll] at ha
    by_cases hi : i < L.length
    · rw [if_pos hi] at ha hb
      have h0 := k.r i a b (by rw [List.getElem?_append_left (by omega)]; exact ha) (by rw [List.getElem?_append_left hi]; exact hb)
      exact ⟨h0.1, flow_Row.stack k (by rw [hob]; exact hgr) h0.2⟩
    · rw [if_neg hi] at ha hb
      have h0 : i - L.length = 0 := by
        have := (List.getElem?_eq_some_iff.1 ha).1
        simp at this; omega
      rw [h0] at ha hb
      simp at ha hb
      subst ha; subst hb
      have h1 := k.r S.length x y (by rw [List.getElem?_append_right (Nat.le_refl _)]; simp) (by rw [hll, List.getElem?_append_right (Nat.le_refl _)]; simp)
      exact ⟨h1.1, flow_Row.stack k (by rw [hob]; exact hgr) hr⟩
theorem own_shape {w : World} {base e size n : Nat} {v : Value} {xs : List Value} (h : w.ownsRow base e size v n xs) (hn : 0 < n) : ∃ g cap, v = .slice (some ⟨g, 0, none⟩) n cap := by
  obtain ⟨_, ⟨_, h2⟩ | ⟨g, cap, cur, ev, _⟩⟩ := h
  · omega
  · exact ⟨g, cap, ev⟩
theorem flow_Row.rest {w : World} {sb : Nat} {vo : Value} {t : Int} {l : List Int} {c g off : Nat} {cur : Array Value} (h1 : (t :: l).length ≤ c) (h2 : c ≤ 9223372036854775807) (e2 : w.heap[g]? = some (.cells cur 3 (0, 0))) (e3 : ∀ j (hj : j < (t :: l).length), cur[off + j]? = some (.int .i64 (t :: l)[j])) (e4 : g ≠ sb) (e5 : some g ≠ vo.ownBlock) : flow_Row w sb vo (.slice (if c = 1 then some ⟨g, off, none⟩ else some ⟨g, off + 1, none⟩) l.length (c - 1)) l := by
  have h3 : l.length + 1 ≤ c := h1
  by_cases hc : c = 1
  · rw [if_pos hc]
    refine ⟨_, c - 1, rfl, by omega, by omega, .inr ⟨g, off, cur, rfl, e2, ?_, e4, e5⟩⟩
    intro j hj; omega
  · rw [if_neg hc]
    refine ⟨_, c - 1, rfl, by omega, by omega, .inr ⟨g, off + 1, cur, rfl, e2, ?_, e4, e5⟩⟩
    intro j hj
    have := e3 (j + 1) (by simp; omega)
    rw [show off + 1 + j = off + (j + 1) by omega, this]
    simp
end Go.Proofs.Ytppanpboejpmjaa.Tr
