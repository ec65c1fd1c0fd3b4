/- FlowC: functions of the program walked by hand, and what they come to. -/
import Derived.Test.YtppanpboejpmjaaProg
import Derived.Below
import Derived.Deep.Draws
import Derived.Deep.AppendLies
import Derived.Maps.AppendAt
import Derived.OwnWalk
import Derived.Laws.BytesArg
import Derived.Laws.MakeOwn
import Derived.Laws.OwnMore
import Derived.Deep.OwnRows
import Derived.Tactics
import Derived.Lib.ConvBytes
import Derived.Laws.Slices
import Derived.WalkKit
import Derived.KernelRfl
import Derived.RowKit3
import Derived.Deep.LoopGhost
import Derived.Deep.QuietTactic
import Derived.BigQuiet
import Derived.WideLaws
import Derived.Deep.DeepCutAuto
import Derived.Deep.CutBlock
import Derived.Deep.RegionHeld3
import Derived.Laws.Rows
import Derived.Lib.AppendStr
import Derived.ArgAppend
import Derived.Laws.IdiomCopy
import Derived.OrdersHeld
import Derived.Laws.BitsLemmas
import Derived.RowKit
import Derived.Shelf.SlicesE.DeleteFunc
import Derived.Test.YtppanpboejpmjaaWWords
import Derived.Test.YtppanpboejpmjaaWLast
import Derived.Test.YtppanpboejpmjaaWTab
import Derived.Test.YtppanpboejpmjaaWFour
import Derived.Test.YtppanpboejpmjaaWQPut
import Derived.Test.YtppanpboejpmjaaWApart
import Derived.Test.YtppanpboejpmjaaWArr
import Derived.Test.YtppanpboejpmjaaWZeros
import Derived.Test.YtppanpboejpmjaaWFoot
import Derived.Test.YtppanpboejpmjaaWKept
import Derived.Test.YtppanpboejpmjaaWShare
import Derived.Test.YtppanpboejpmjaaWN
import Derived.Test.YtppanpboejpmjaaWFootNe
import Derived.Test.YtppanpboejpmjaaWAt
import Derived.Test.YtppanpboejpmjaaWEqStruct
import Derived.Test.YtppanpboejpmjaaWRepsOne
import Derived.Test.YtppanpboejpmjaaWInv
import Derived.Test.YtppanpboejpmjaaWInvWords
import Derived.Test.YtppanpboejpmjaaWGuard
import Derived.Test.YtppanpboejpmjaaWNEv
import Derived.Test.YtppanpboejpmjaaWMore
import Derived.Test.YtppanpboejpmjaaTr0
import Derived.Test.YtppanpboejpmjaaTr2
import Derived.Outline
set_option linter.all false
namespace Go.Proofs.Ytppanpboejpmjaa.Tr
open Go.RowKit Go.Proofs.YtppanpboejpmjaaW.PrintWords Go.Proofs.YtppanpboejpmjaaW.PrintLast Go.Proofs.YtppanpboejpmjaaW.PrintMore
set_option linter.unusedVariables false
theorem own_other {w w' : World} {base e size n : Nat} {v : Value} {xs : List Value} {row : Option Nat} (h : w.ownsRow base e size v n xs) (hg : w.grownBy w' row) (hne : ∀ b, v.ownBlock = some b → some b ≠ row) : w'.ownsRow base e size v n xs := by
  obtain ⟨h1, ⟨ev, h2⟩ | ⟨g, cap, cur, ev, h2, h3, h4⟩⟩ := h
  · exact ⟨h1, .inl ⟨ev, h2⟩⟩
  · refine ⟨h1, .inr ⟨g, cap, cur, ev, h2, ?_, h4⟩⟩
    rw [hg.block g (blk_lt h3) (hne g (by subst ev; rfl))]; exact h3
theorem own_ne_type {w : World} {base e size n : Nat} {v : Value} {xs : List Value} (h : w.ownsRow base e size v n xs) {g : Nat} {cs : Array Value} {t : TypeId} (hb : w.heap[g]? = some (.cells cs t (0, 0))) (ht : e ≠ t) : ∀ b, v.ownBlock = some b → some b ≠ some g := by
  intro b hv he
  injection he with he; subst he
  obtain ⟨h1, ⟨ev, h2⟩ | ⟨g, cap, cur, ev, h2, h3, h4⟩⟩ := h
  · subst ev; cases hv
  · subst ev
    have : g = b := by injection hv
    subst this
    rw [h3] at hb; injection hb with hb; injection hb with _ hb _; exact ht hb
theorem own_ne_own {w : World} {base e size n e' size' n' : Nat} {v v' : Value} {xs xs' : List Value} (h : w.ownsRow base e size v n xs) (h' : w.ownsRow base e' size' v' n' xs') (ht : e ≠ e') : ∀ b, v.ownBlock = some b → some b ≠ v'.ownBlock := by
  intro b hv he
  obtain ⟨_, ⟨ev, h2⟩ | ⟨g, cap, cur, ev, h2, h3, h4⟩⟩ := h'
  · subst ev; cases he
  · subst ev
    exact own_ne_type h h3 ht b hv (by rw [he]; rfl)
theorem blk_other {w w' : World} {g : Nat} {o : Obj} {row : Option Nat} (h : w.heap[g]? = some o) (hg : w.grownBy w' row) (hne : some g ≠ row) : w'.heap[g]? = some o := by
  rw [hg.block g (blk_lt h) hne]; exact h
theorem grown_set (w : World) (g i : Nat) (u : Value) : w.grownBy (w.setCell ⟨g, i, none⟩ u) (some g) :=
  ⟨rfl, rfl, rfl, by simp [World.setCell], fun k _ hk => Below.heap_setCell w _ u k (by intro e; exact hk (by rw [e]))⟩
theorem grown_below {w w' : World} (h : Below w.heap.size w w') : w.grownBy w' none := ⟨h.os, h.tape, h.output, h.size, fun k hk _ => h.block k hk⟩
/-- a row of numbers that is read alone, wherever it lies -/
def flow_Row (w : World) (sb : Nat) (vo : Value) (v : Value) (l : List Int) : Prop :=
  ∃ A c, v = .slice A l.length c ∧ l.length ≤ c ∧ c ≤ 9223372036854775807 ∧ (A = none ∧ l = [] ∨ ∃ g off cur, A = some ⟨g, off, none⟩ ∧ w.heap[g]? = some (.cells cur 3 (0, 0)) ∧ (∀ j (hj : j < l.length), cur[off + j]? = some (.int .i64 l[j])) ∧ g ≠ sb ∧ some g ≠ vo.ownBlock)
/-- a walk through the blocks, as it lies in memory -/
structure flow_St (w0 w : World) (wb sb : Nat) (p0 p1 p2 p3 p4 p5 : Value) (st : List Int) (vo : Value) (ord : List Int) (vb : Value) (back : List (Int × Int)) : Prop where
  s : w.heap[wb]? = some (.cells #[p0, p1, p2, p3, p4, p5, .slice (some ⟨sb, 0, none⟩) st.length st.length, vo, vb] 100 (0, 0))
  d : w.heap[sb]? = some (.cells (nums .i64 st).toArray 3 (0, 0))
  o : w.ownsRow w0.heap.size 3 1 vo ord.length (nums .i64 ord)
  b : w.ownsRow w0.heap.size 52 2 vb back.length (back.flatMap fun x => [.int .i64 x.1, .int .i64 x.2])
  no : ∀ k, vo.ownBlock = some k → some k ≠ some sb
  gw : w0.heap.size ≤ wb
  gs : w0.heap.size ≤ sb
  below : Below w0.heap.size w0 w
/-- the stack of the walk -/
structure flow_Sk (w0 w : World) (sb : Nat) (vo : Value) (vs : Value) (S : List (Int × Value)) (L : List (Int × List Int)) : Prop where
  t : w.ownsRow w0.heap.size 150 2 vs S.length (S.flatMap fun x => [.int .i64 x.1, x.2])
  l : S.length = L.length
  r : ∀ (i : Nat) (x : Int × Value) (y : Int × List Int), S[i]? = some x → L[i]? = some y → x.1 = y.1 ∧ flow_Row w sb vo x.2 y.2
theorem flow_Row.other {w w' : World} {sb : Nat} {vo v : Value} {l : List Int} {row : Option Nat} (h : flow_Row w sb vo v l) (hg : w.grownBy w' row) (hne : ∀ g cs, w.heap[g]? = some (.cells cs 3 (0, 0)) → g ≠ sb → some g ≠ vo.ownBlock → some g ≠ row) : flow_Row w' sb vo v l := by
  obtain ⟨A, c, e, h1, h2, h3 | ⟨g, off, cur, e1, e2, e3, e4, e5⟩⟩ := h
  · exact ⟨A, c, e, h1, h2, .inl h3⟩
  · exact ⟨A, c, e, h1, h2, .inr ⟨g, off, cur, e1, blk_other e2 hg (hne g cur e2 e4 e5), e3, e4, e5⟩⟩
theorem flow_St.other {w0 w w' : World} {wb sb : Nat} {p0 p1 p2 p3 p4 p5 vo vb : Value} {st ord : List Int} {back : List (Int × Int)} {row : Option Nat} (h : flow_St w0 w wb sb p0 p1 p2 p3 p4 p5 st vo ord vb back) (hg : w.grownBy w' row) (h1 : some wb ≠ row) (h2 : some sb ≠ row) (h3 : ∀ b, vo.ownBlock = some b → some b ≠ row) (h4 : ∀ b, vb.ownBlock = some b → some b ≠ row) (hB : Below w0.heap.size w0 w') : flow_St w0 w' wb sb p0 p1 p2 p3 p4 p5 st vo ord vb back where
  s := blk_other h.s hg h1
  d := blk_other h.d hg h2
  o := own_other h.o hg h3
  b := own_other h.b hg h4
  no := h.no
  gw := h.gw
  gs := h.gs
  below := hB
theorem flow_St.step {w0 w w' : World} {wb sb : Nat} {p0 p1 p2 p3 p4 p5 vo vb : Value} {st ord : List Int} {back : List (Int × Int)} (h : flow_St w0 w wb sb p0 p1 p2 p3 p4 p5 st vo ord vb back) (hb : Below w.heap.size w w') : flow_St w0 w' wb sb p0 p1 p2 p3 p4 p5 st vo ord vb back :=
  h.other (grown_below hb) (by simp) (by simp) (by simp) (by simp) (below_step h.below hb)
theorem flow_Sk.other {w0 w w' : World} {sb : Nat} {vo vs : Value} {S : List (Int × Value)} {L : List (Int × List Int)} {row : Option Nat} (h : flow_Sk w0 w sb vo vs S L) (hg : w.grownBy w' row) (h1 : ∀ b, vs.ownBlock = some b → some b ≠ row) (hne : ∀ g cs, w.heap[g]? = some (.cells cs 3 (0, 0)) → g ≠ sb → some g ≠ vo.ownBlock → some g ≠ row) : flow_Sk w0 w' sb vo vs S L where
  t := own_other h.t hg h1
  l := h.l
  r := fun i x y hx hy => ⟨(h.r i x y hx hy).1, (h.r i x y hx hy).2.other hg hne⟩
theorem flow_Sk.step {w0 w w' : World} {sb : Nat} {vo vs : Value} {S : List (Int × Value)} {L : List (Int × List Int)} (h : flow_Sk w0 w sb vo vs S L) (hb : Below w.heap.size w w') : flow_Sk w0 w' sb vo vs S L := h.other (grown_below hb) (by simp) (by simp)
/-- a block's state turns -/
theorem flow_St.mark {w0 w : World} {wb sb : Nat} {p0 p1 p2 p3 p4 p5 vo vb : Value} {st ord : List Int} {back : List (Int × Int)} (h : flow_St w0 w wb sb p0 p1 p2 p3 p4 p5 st vo ord vb back) (i : Nat) (x : Int) : flow_St w0 (w.setCell ⟨sb, i, none⟩ (.int .i64 x)) wb sb p0 p1 p2 p3 p4 p5 (st.set i x) vo ord vb back where
  s := by rw [List.length_set]; exact blk_far h.s (blk_ne h.s h.d (by decide)) _
  d := blk_put h.d i _ (by simp [nums, List.map_set])
  o := own_other h.o (grown_set w sb i _) h.no
  b := own_other h.b (grown_set w sb i _) (own_ne_type h.b h.d (by decide))
  no := h.no
  gw := h.gw
  gs := h.gs
  below := below_set h.below h.gs
theorem flow_Sk.mark {w0 w : World} {wb sb : Nat} {p0 p1 p2 p3 p4 p5 vo vb vs : Value} {st ord : List Int} {back : List (Int × Int)} {S : List (Int × Value)} {L : List (Int × List Int)} (k : flow_Sk w0 w sb vo vs S L) (h : flow_St w0 w wb sb p0 p1 p2 p3 p4 p5 st vo ord vb back) (i : Nat) (u : Value) : flow_Sk w0 (w.setCell ⟨sb, i, none⟩ u) sb vo vs S L :=
  k.other (grown_set w sb i u) (own_ne_type k.t h.d (by decide)) (fun g cs _ hn _ he => hn (by injection he))
/-- a block is left: the order one longer (the row appended to, then stored) -/
theorem flow_St.left {w0 w w1 : World} {wb sb : Nat} {p0 p1 p2 p3 p4 p5 vo vb vo' : Value} {st ord : List Int} {back : List (Int × Int)} (h : flow_St w0 w wb sb p0 p1 p2 p3 p4 p5 st vo ord vb back) (n : Int) (ho : w1.ownsRow w0.heap.size 3 1 vo' (ord.length + 1) (nums .i64 ord ++ [.int .i64 n])) (hg : w.grownBy w1 vo.ownBlock) (hat : vo'.ownBlock = vo.ownBlock ∨ ∃ b, vo'.ownBlock = some b ∧ w.heap.size ≤ b) (hB : Below w0.heap.size w0 w1) : flow_St w0 (w1.setCell ⟨wb, 7, none⟩ vo') wb sb p0 p1 p2 p3 p4 p5 st vo' (ord ++ [n]) vb back := by
  have hne : ∀ (g : Nat) (cs : Array Value) (t : TypeId), w.heap[g]? = some (.cells cs t (0, 0)) → 3 ≠ t → some g ≠ vo.ownBlock := fun g cs t hb ht he => own_ne_type h.o hb ht g he.symm rfl
  have hs1 := blk_other h.s hg (hne _ _ _ h.s (by decide))
  have hd1 := blk_other h.d hg (fun he => h.no sb he.symm rfl)
  have hb1 := own_other h.b hg (own_ne_own h.b h.o (by decide))
  refine ⟨blk_put hs1 7 _ rfl, blk_far hd1 (p := ⟨wb, 7, none⟩) (blk_ne hd1 hs1 (by decide)) _, ?_, own_other hb1 (grown_set w1 wb 7 _) (own_ne_type hb1 hs1 (by decide)), ?_, h.gw, h.gs, below_set hB h.gw⟩
  · have e : nums .i64 (ord ++ [n]) = nums .i64 ord ++ [.int .i64 n] := by simp [nums]
    rw [e, List.length_append]
    exact own_other ho (grown_set w1 wb 7 _) (own_ne_type ho hs1 (by decide))
  · intro k hk he
    injection he with he; subst he
    rcases hat with hat | ⟨b, hb, hge⟩
    · exact h.no k (by rw [← hat]; exact hk) rfl
    · have : k = b := by rw [hb] at hk; injection hk with hk; exact hk.symm
      have := blk_lt h.d
      omega
theorem flow_Sk.left {w0 w w1 : World} {wb sb : Nat} {p0 p1 p2 p3 p4 p5 vo vb vo' vs : Value} {st ord : List Int} {back : List (Int × Int)} {S : List (Int × Value)} {L : List (Int × List Int)} (k : flow_Sk w0 w sb vo vs S L) (h : flow_St w0 w wb sb p0 p1 p2 p3 p4 p5 st vo ord vb back) (hg : w.grownBy w1 vo.ownBlock) (hat : vo'.ownBlock = vo.ownBlock ∨ ∃ b, vo'.ownBlock = some b ∧ w.heap.size ≤ b) : flow_Sk w0 (w1.setCell ⟨wb, 7, none⟩ vo') sb vo' vs S L := by
  have hs1 := blk_other h.s hg (fun he => own_ne_type h.o h.s (by decide) wb he.symm rfl)
  have ht1 := own_other k.t hg (own_ne_own k.t h.o (by decide))
  refine ⟨own_other ht1 (grown_set w1 wb 7 _) (own_ne_type ht1 hs1 (by decide)), k.l, fun i x y hx hy => ⟨(k.r i x y hx hy).1, ?_⟩⟩
  obtain ⟨A, c, e, h1, h2, h3 | ⟨g, off, cur, e1, e2, e3, e4, e5⟩⟩ := (k.r i x y hx hy).2
  · exact ⟨A, c, e, h1, h2, .inl h3⟩
  · have e21 := blk_other e2 hg e5
    refine ⟨A, c, e, h1, h2, .inr ⟨g, off, cur, e1, blk_far e21 (p := ⟨wb, 7, none⟩) (blk_ne e21 hs1 (by decide)) _, e3, e4, ?_⟩⟩
    intro he
    rcases hat with hat | ⟨b, hb, hge⟩
    · exact e5 (by rw [← hat]; exact he)
    · have : g = b := by rw [hb] at he; injection he
      have := blk_lt e2
      omega
end Go.Proofs.Ytppanpboejpmjaa.Tr
