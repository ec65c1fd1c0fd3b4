/- FlowS: functions of the program walked by hand, and what they come to. -/
import Derived.Test.YtppanpboejpmjaaProg
import Derived.Below
import Derived.Deep.Draws
import Derived.Deep.AppendLies
import Derived.Maps.AppendAt
import Derived.OwnWalk
import Derived.Laws.BytesArg
import Derived.Laws.MakeOwn
import Derived.Laws.OwnMore
import Derived.Deep.OwnRows
import Derived.Tactics
import Derived.Lib.ConvBytes
import Derived.Laws.Slices
import Derived.WalkKit
import Derived.KernelRfl
import Derived.RowKit3
import Derived.Deep.LoopGhost
import Derived.Deep.QuietTactic
import Derived.BigQuiet
import Derived.WideLaws
import Derived.Deep.DeepCutAuto
import Derived.Deep.CutBlock
import Derived.Deep.RegionHeld3
import Derived.Laws.Rows
import Derived.Lib.AppendStr
import Derived.ArgAppend
import Derived.Laws.IdiomCopy
import Derived.OrdersHeld
import Derived.Laws.BitsLemmas
import Derived.RowKit
import Derived.Shelf.SlicesE.DeleteFunc
import Derived.Test.YtppanpboejpmjaaWWords
import Derived.Test.YtppanpboejpmjaaWLast
import Derived.Test.YtppanpboejpmjaaWTab
import Derived.Test.YtppanpboejpmjaaWFour
import Derived.Test.YtppanpboejpmjaaWQPut
import Derived.Test.YtppanpboejpmjaaWApart
import Derived.Test.YtppanpboejpmjaaWArr
import Derived.Test.YtppanpboejpmjaaWZeros
import Derived.Test.YtppanpboejpmjaaWFoot
import Derived.Test.YtppanpboejpmjaaWKept
import Derived.Test.YtppanpboejpmjaaWShare
import Derived.Test.YtppanpboejpmjaaWN
import Derived.Test.YtppanpboejpmjaaWFootNe
import Derived.Test.YtppanpboejpmjaaWAt
import Derived.Test.YtppanpboejpmjaaWEqStruct
import Derived.Test.YtppanpboejpmjaaWRepsOne
import Derived.Test.YtppanpboejpmjaaWInv
import Derived.Test.YtppanpboejpmjaaWInvWords
import Derived.Test.YtppanpboejpmjaaWGuard
import Derived.Test.YtppanpboejpmjaaWNEv
import Derived.Test.YtppanpboejpmjaaWMore
import Derived.Test.YtppanpboejpmjaaTr0
import Derived.Test.YtppanpboejpmjaaFlowR
import Derived.Test.YtppanpboejpmjaaTr4
import Derived.Outline
set_option linter.all false
namespace Go.Proofs.Ytppanpboejpmjaa.Tr
open Go.RowKit Go.Proofs.YtppanpboejpmjaaW.PrintWords Go.Proofs.YtppanpboejpmjaaW.PrintLast Go.Proofs.YtppanpboejpmjaaW.PrintMore
set_option linter.unusedVariables false
def ref_into.l (rec : List Int → List Int → List (Int × Int) → Int → Option (List Int × List Int × List (Int × Int))) (n : Int) : List Int → List Int → List Int → List (Int × Int) → Option (List Int × List Int × List (Int × Int))
  | [], st, left, back => some (st, left, back)
  | t :: o, st, left, back => if 0 ≤ t ∧ t < (st.length : Int) then (if rd st t = 1 then (if back.length < 4000000000000 then ref_into.l rec n o st left (back ++ [(n, t)]) else none) else if rd st t = 0 then (rec st left back t).bind fun s => ref_into.l rec n o s.1 s.2.1 s.2.2 else ref_into.l rec n o st left back) else none
def ref_into.f (a0 : ByteArray) (a1 : Bool) (a2 a3 : Int) (l4 : List S76) (l5 : List S45) : Nat → List Int → List Int → List (Int × Int) → Int → Option (List Int × List Int × List (Int × Int))
  | 0, _, _, _, _ => none
  | k + 1, st, left, back, n => if 0 ≤ n ∧ n < (st.length : Int) then (rushlightref16_Outs.f k a0 a1 a2 a3 l4 l5 n).bind fun o => (ref_into.l (ref_into.f a0 a1 a2 a3 l4 l5 k) n o (st.set n.toNat 1) left back).bind fun x => (if n < (x.1.length : Int) ∧ x.2.1.length < 4000000000000 then some (x.1.set n.toNat 2, x.2.1 ++ [n], x.2.2) else none) else none
/-- the blocks that a walk may turn -/
def rf_Turns (wb sb : Nat) (vo vb : Value) (k : Nat) : Prop := k = wb ∨ k = sb ∨ vo.ownBlock = some k ∨ vb.ownBlock = some k
def rf_Grown (w : World) (v v' : Value) : Prop := v'.ownBlock = v.ownBlock ∨ ∃ b, v'.ownBlock = some b ∧ w.heap.size ≤ b
theorem rf_Grown.trans {w w1 : World} {v v1 v2 : Value} (h : rf_Grown w v v1) (k : rf_Grown w1 v1 v2) (hs : w.heap.size ≤ w1.heap.size) : rf_Grown w v v2 := by
  rcases k with k | ⟨b, k1, k2⟩
  · rcases h with h | ⟨b, h1, h2⟩
    · exact .inl (k.trans h)
    · exact .inr ⟨b, k.trans h1, h2⟩
  · exact .inr ⟨b, k1, Nat.le_trans hs k2⟩
/-- one call behind the other -/
theorem rf_Turns.then_ {w w1 w2 : World} {wb sb : Nat} {vo vb vo1 vb1 : Value} (h : Kept w w1 (rf_Turns wb sb vo vb)) (ho : rf_Grown w vo vo1) (hb : rf_Grown w vb vb1) (k : Kept w1 w2 (rf_Turns wb sb vo1 vb1)) : Kept w w2 (rf_Turns wb sb vo vb) :=
  h.then_ k (fun x hx => by
    rcases hx with hx | hx | hx | hx
    · exact .inl (.inl hx)
    · exact .inl (.inr (.inl hx))
    · rcases ho with ho | ⟨b, h1, h2⟩
      · exact .inl (.inr (.inr (.inl (ho ▸ hx))))
      · rw [h1] at hx; injection hx with hx; subst hx; exact .inr h2
    · rcases hb with hb | ⟨b, h1, h2⟩
      · exact .inl (.inr (.inr (.inr (hb ▸ hx))))
      · rw [h1] at hx; injection hx with hx; subst hx; exact .inr h2)
theorem flow_Row.kept {w0 w w' : World} {wb sb : Nat} {vo vb vo' v : Value} {st left : List Int} {back : List (Int × Int)} {l : List Int} (hs : rf_St w0 w wb sb st vo left vb back) (h : flow_Row w sb vo v l) (hk : Kept w w' (rf_Turns wb sb vo vb)) (ho : rf_Grown w vo vo') : flow_Row w' sb vo' v l := by
  obtain ⟨A, c, e, h1, h2, h3 | ⟨g, off, cur, e1, e2, e3, e4, e5⟩⟩ := h
  · exact ⟨A, c, e, h1, h2, .inl h3⟩
  · have hlt := blk_lt e2
    have hn : ¬ rf_Turns wb sb vo vb g := by
      rintro (hx | hx | hx | hx)
      · subst hx; have := hs.s; rw [e2] at this; injection this with this; injection this with _ this _; exact absurd this (by decide)
      · exact e4 hx
      · exact e5 hx.symm
      · exact own_ne_type hs.b e2 (by decide) g hx rfl
    refine ⟨A, c, e, h1, h2, .inr ⟨g, off, cur, e1, (hk.2 g hlt hn).trans e2, e3, e4, ?_⟩⟩
    intro he
    rcases ho with ho | ⟨b, hb, hge⟩
    · exact e5 (he.trans ho)
    · rw [hb] at he; injection he with he; omega
theorem blk_kept {w0 w w' : World} {wb sb g : Nat} {vo vb : Value} {st left : List Int} {back : List (Int × Int)} {cs : Array Value} {t : TypeId} (hs : rf_St w0 w wb sb st vo left vb back) (h : w.heap[g]? = some (.cells cs t (0, 0))) (hk : Kept w w' (rf_Turns wb sb vo vb)) (h1 : t ≠ 61) (h2 : t ≠ 3) (h3 : t ≠ 52) : w'.heap[g]? = some (.cells cs t (0, 0)) := by
  have hn : ¬ rf_Turns wb sb vo vb g := by
    rintro (hx | hx | hx | hx)
    · subst hx; have := hs.s; rw [h] at this; injection this with this; injection this with _ this _; exact h1 this
    · subst hx; have := hs.d; rw [h] at this; injection this with this; injection this with _ this _; exact h2 this
    · exact own_ne_type hs.o h (Ne.symm h2) g hx rfl
    · exact own_ne_type hs.b h (Ne.symm h3) g hx rfl
  exact (hk.2 g (blk_lt h) hn).trans h
theorem flow_Row.of_R2 {w0 w w1 : World} {wb sb : Nat} {vo vb : Value} {st ord : List Int} {back : List (Int × Int)} (h : rf_St w0 w wb sb st vo ord vb back) {v : Value} {l : List Int} {ok : Nat → Prop} (hr : Kd.R (Kd.int .i64) 3 w1 w.heap.size ok v l) : flow_Row w1 sb vo v l := by
  obtain ⟨inner, h1, ⟨ev, h2⟩ | ⟨g, cap, cur, ev, h2, h3, h4, h5, h6, h7⟩⟩ := Kd.R_own hr
  · have : l = [] := List.length_eq_zero_iff.1 h2
    subst this
    exact ⟨none, 0, ev, Nat.le_refl _, by decide, .inl ⟨rfl, rfl⟩⟩
  · refine ⟨_, cap, ev, h4, by unfold maxLen at h5; omega, .inr ⟨g, 0, cur, rfl, h3, ?_, ?_, ?_⟩⟩
    · intro j hj
      subst ev
      have := Kd.R_celln (enc := Value.int .i64) (0 : Int) hr (j : Int) (Int.natCast_nonneg _) (by omega)
      simp only [Int.toNat_natCast] at this
      rw [blk_cell h3] at this
      rw [Nat.zero_add, this.1]
      simp [rdOf, hj]
    · have := blk_lt h.d; omega
    · intro he
      obtain ⟨_, ⟨ev2, _⟩ | ⟨g2, cap2, cur2, ev2, _, h32, _⟩⟩ := h.o
      · rw [ev2] at he; cases he
      · rw [ev2] at he
        have : g = g2 := by injection he
        have := blk_lt h32; omega
theorem flow_Row.at {w : World} {sb g off c : Nat} {vo : Value} {l : List Int} (h : flow_Row w sb vo (.slice (some ⟨g, off, none⟩) l.length c) l) (j : Nat) (hj : j < l.length) : w.cell? ⟨g, off + j, none⟩ = some (.int .i64 l[j]) := by
  obtain ⟨A, c', e, h1, h2, ⟨h3, _⟩ | ⟨g', off', cur, e1, e2, e3, _⟩⟩ := h
  · subst h3; cases e
  · subst e1
    injection e with e _ _
    injection e with e
    injection e with ea eb
    subst ea; subst eb
    exact (blk_cell e2 _).trans (e3 j hj)
end Go.Proofs.Ytppanpboejpmjaa.Tr
