/- FlowR: functions of the program walked by hand, and what they come to. -/
import Derived.Test.YtppanpboejpmjaaProg
import Derived.Below
import Derived.Deep.Draws
import Derived.Deep.AppendLies
import Derived.Maps.AppendAt
import Derived.OwnWalk
import Derived.Laws.BytesArg
import Derived.Laws.MakeOwn
import Derived.Laws.OwnMore
import Derived.Deep.OwnRows
import Derived.Tactics
import Derived.Lib.ConvBytes
import Derived.Laws.Slices
import Derived.WalkKit
import Derived.KernelRfl
import Derived.RowKit3
import Derived.Deep.LoopGhost
import Derived.Deep.QuietTactic
import Derived.BigQuiet
import Derived.WideLaws
import Derived.Deep.DeepCutAuto
import Derived.Deep.CutBlock
import Derived.Deep.RegionHeld3
import Derived.Laws.Rows
import Derived.Lib.AppendStr
import Derived.ArgAppend
import Derived.Laws.IdiomCopy
import Derived.OrdersHeld
import Derived.Laws.BitsLemmas
import Derived.RowKit
import Derived.Shelf.SlicesE.DeleteFunc
import Derived.Test.YtppanpboejpmjaaWWords
import Derived.Test.YtppanpboejpmjaaWLast
import Derived.Test.YtppanpboejpmjaaWTab
import Derived.Test.YtppanpboejpmjaaWFour
import Derived.Test.YtppanpboejpmjaaWQPut
import Derived.Test.YtppanpboejpmjaaWApart
import Derived.Test.YtppanpboejpmjaaWArr
import Derived.Test.YtppanpboejpmjaaWZeros
import Derived.Test.YtppanpboejpmjaaWFoot
import Derived.Test.YtppanpboejpmjaaWKept
import Derived.Test.YtppanpboejpmjaaWShare
import Derived.Test.YtppanpboejpmjaaWN
import Derived.Test.YtppanpboejpmjaaWFootNe
import Derived.Test.YtppanpboejpmjaaWAt
import Derived.Test.YtppanpboejpmjaaWEqStruct
import Derived.Test.YtppanpboejpmjaaWRepsOne
import Derived.Test.YtppanpboejpmjaaWInv
import Derived.Test.YtppanpboejpmjaaWInvWords
import Derived.Test.YtppanpboejpmjaaWGuard
import Derived.Test.YtppanpboejpmjaaWNEv
import Derived.Test.YtppanpboejpmjaaWMore
import Derived.Test.YtppanpboejpmjaaTr0
import Derived.Test.YtppanpboejpmjaaFlowJ
import Derived.Outline
set_option linter.all false
namespace Go.Proofs.Ytppanpboejpmjaa.Tr
open Go.RowKit Go.Proofs.YtppanpboejpmjaaW.PrintWords Go.Proofs.YtppanpboejpmjaaW.PrintLast Go.Proofs.YtppanpboejpmjaaW.PrintMore
set_option linter.unusedVariables false
/-- the reference's walk, as it lies in memory -/
structure rf_St (w0 w : World) (wb sb : Nat) (st : List Int) (vo : Value) (ord : List Int) (vb : Value) (back : List (Int × Int)) : Prop where
  s : w.heap[wb]? = some (.cells #[.slice (some ⟨sb, 0, none⟩) st.length st.length, vo, vb] 61 (0, 0))
  d : w.heap[sb]? = some (.cells (nums .i64 st).toArray 3 (0, 0))
  o : w.ownsRow w0.heap.size 3 1 vo ord.length (nums .i64 ord)
  b : w.ownsRow w0.heap.size 52 2 vb back.length (back.flatMap fun x => [.int .i64 x.1, .int .i64 x.2])
  no : ∀ k, vo.ownBlock = some k → some k ≠ some sb
  gw : w0.heap.size ≤ wb
  gs : w0.heap.size ≤ sb
  below : Below w0.heap.size w0 w
theorem rf_St.other {w0 w w' : World} {wb sb : Nat} {vo vb : Value} {st ord : List Int} {back : List (Int × Int)} {row : Option Nat} (h : rf_St w0 w wb sb st vo ord vb back) (hg : w.grownBy w' row) (h1 : some wb ≠ row) (h2 : some sb ≠ row) (h3 : ∀ b, vo.ownBlock = some b → some b ≠ row) (h4 : ∀ b, vb.ownBlock = some b → some b ≠ row) (hB : Below w0.heap.size w0 w') : rf_St w0 w' wb sb st vo ord vb back where
  s := blk_other h.s hg h1
  d := blk_other h.d hg h2
  o := own_other h.o hg h3
  b := own_other h.b hg h4
  no := h.no
  gw := h.gw
  gs := h.gs
  below := hB
theorem rf_St.step {w0 w w' : World} {wb sb : Nat} {vo vb : Value} {st ord : List Int} {back : List (Int × Int)} (h : rf_St w0 w wb sb st vo ord vb back) (hb : Below w.heap.size w w') : rf_St w0 w' wb sb st vo ord vb back :=
  h.other (grown_below hb) (by simp) (by simp) (by simp) (by simp) (below_step h.below hb)
theorem rf_St.mark {w0 w : World} {wb sb : Nat} {vo vb : Value} {st ord : List Int} {back : List (Int × Int)} (h : rf_St w0 w wb sb st vo ord vb back) (i : Nat) (x : Int) : rf_St w0 (w.setCell ⟨sb, i, none⟩ (.int .i64 x)) wb sb (st.set i x) vo ord vb back where
  s := by rw [List.length_set]; exact blk_far h.s (blk_ne h.s h.d (by decide)) _
  d := blk_put h.d i _ (by simp [nums, List.map_set])
  o := own_other h.o (grown_set w sb i _) h.no
  b := own_other h.b (grown_set w sb i _) (own_ne_type h.b h.d (by decide))
  no := h.no
  gw := h.gw
  gs := h.gs
  below := below_set h.below h.gs
theorem rf_St.left {w0 w w1 : World} {wb sb : Nat} {vo vb vo' : Value} {st ord : List Int} {back : List (Int × Int)} (h : rf_St w0 w wb sb st vo ord vb back) (n : Int) (ho : w1.ownsRow w0.heap.size 3 1 vo' (ord.length + 1) (nums .i64 ord ++ [.int .i64 n])) (hg : w.grownBy w1 vo.ownBlock) (hat : vo'.ownBlock = vo.ownBlock ∨ ∃ b, vo'.ownBlock = some b ∧ w.heap.size ≤ b) (hB : Below w0.heap.size w0 w1) : rf_St w0 (w1.setCell ⟨wb, 1, none⟩ vo') wb sb st vo' (ord ++ [n]) vb back := by
  have hne : ∀ (g : Nat) (cs : Array Value) (t : TypeId), w.heap[g]? = some (.cells cs t (0, 0)) → 3 ≠ t → some g ≠ vo.ownBlock := fun g cs t hb ht he => own_ne_type h.o hb ht g he.symm rfl
  have hs1 := blk_other h.s hg (hne _ _ _ h.s (by decide))
  have hd1 := blk_other h.d hg (fun he => h.no sb he.symm rfl)
  have hb1 := own_other h.b hg (own_ne_own h.b h.o (by decide))
  refine ⟨blk_put hs1 1 _ rfl, blk_far hd1 (p := ⟨wb, 1, none⟩) (blk_ne hd1 hs1 (by decide)) _, ?_, own_other hb1 (grown_set w1 wb 1 _) (own_ne_type hb1 hs1 (by decide)), ?_, h.gw, h.gs, below_set hB h.gw⟩
  · have e : nums .i64 (ord ++ [n]) = nums .i64 ord ++ [.int .i64 n] := by simp [nums]
    rw [e, List.length_append]
    exact own_other ho (grown_set w1 wb 1 _) (own_ne_type ho hs1 (by decide))
  · intro k hk he
    injection he with he; subst he
    rcases hat with hat | ⟨b, hb, hge⟩
    · exact h.no k (by rw [← hat]; exact hk) rfl
    · have : k = b := by rw [hb] at hk; injection hk with hk; exact hk.symm
      have := blk_lt h.d
      omega
theorem rf_St.back {w0 w w1 : World} {wb sb : Nat} {vo vb vb' : Value} {st ord : List Int} {back : List (Int × Int)} (h : rf_St w0 w wb sb st vo ord vb back) (n m : Int) (ho : w1.ownsRow w0.heap.size 52 2 vb' (back.length + 1) ((back.flatMap fun x => [.int .i64 x.1, .int .i64 x.2]) ++ [.int .i64 n, .int .i64 m])) (hg : w.grownBy w1 vb.ownBlock) (hB : Below w0.heap.size w0 w1) : rf_St w0 (w1.setCell ⟨wb, 2, none⟩ vb') wb sb st vo ord vb' (back ++ [(n, m)]) := by
  have hne : ∀ (g : Nat) (cs : Array Value) (t : TypeId), w.heap[g]? = some (.cells cs t (0, 0)) → 52 ≠ t → some g ≠ vb.ownBlock := fun g cs t hb ht he => own_ne_type h.b hb ht g he.symm rfl
  have hs1 := blk_other h.s hg (hne _ _ _ h.s (by decide))
  have hd1 := blk_other h.d hg (hne _ _ _ h.d (by decide))
  have ho1 := own_other h.o hg (own_ne_own h.o h.b (by decide))
  refine ⟨blk_put hs1 2 _ rfl, blk_far hd1 (p := ⟨wb, 2, none⟩) (blk_ne hd1 hs1 (by decide)) _, own_other ho1 (grown_set w1 wb 2 _) (own_ne_type ho1 hs1 (by decide)), ?_, h.no, h.gw, h.gs, below_set hB h.gw⟩
  rw [List.length_append, List.flatMap_append]
  have := own_other ho (grown_set w1 wb 2 vb') (own_ne_type ho hs1 (by decide))
  simpa using this
end Go.Proofs.Ytppanpboejpmjaa.Tr
