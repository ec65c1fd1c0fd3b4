/- FlowM: functions of the program walked by hand, and what they come to. -/
import Derived.Test.YtppanpboejpmjaaProg
import Derived.Below
import Derived.Deep.Draws
import Derived.Deep.AppendLies
import Derived.Maps.AppendAt
import Derived.OwnWalk
import Derived.Laws.BytesArg
import Derived.Laws.MakeOwn
import Derived.Laws.OwnMore
import Derived.Deep.OwnRows
import Derived.Tactics
import Derived.Lib.ConvBytes
import Derived.Laws.Slices
import Derived.WalkKit
import Derived.KernelRfl
import Derived.RowKit3
import Derived.Deep.LoopGhost
import Derived.Deep.QuietTactic
import Derived.BigQuiet
import Derived.WideLaws
import Derived.Deep.DeepCutAuto
import Derived.Deep.CutBlock
import Derived.Deep.RegionHeld3
import Derived.Laws.Rows
import Derived.Lib.AppendStr
import Derived.ArgAppend
import Derived.Laws.IdiomCopy
import Derived.OrdersHeld
import Derived.Laws.BitsLemmas
import Derived.RowKit
import Derived.Shelf.SlicesE.DeleteFunc
import Derived.Test.YtppanpboejpmjaaWWords
import Derived.Test.YtppanpboejpmjaaWLast
import Derived.Test.YtppanpboejpmjaaWTab
import Derived.Test.YtppanpboejpmjaaWFour
import Derived.Test.YtppanpboejpmjaaWQPut
import Derived.Test.YtppanpboejpmjaaWApart
import Derived.Test.YtppanpboejpmjaaWArr
import Derived.Test.YtppanpboejpmjaaWZeros
import Derived.Test.YtppanpboejpmjaaWFoot
import Derived.Test.YtppanpboejpmjaaWKept
import Derived.Test.YtppanpboejpmjaaWShare
import Derived.Test.YtppanpboejpmjaaWN
import Derived.Test.YtppanpboejpmjaaWFootNe
import Derived.Test.YtppanpboejpmjaaWAt
import Derived.Test.YtppanpboejpmjaaWEqStruct
import Derived.Test.YtppanpboejpmjaaWRepsOne
import Derived.Test.YtppanpboejpmjaaWInv
import Derived.Test.YtppanpboejpmjaaWInvWords
import Derived.Test.YtppanpboejpmjaaWGuard
import Derived.Test.YtppanpboejpmjaaWNEv
import Derived.Test.YtppanpboejpmjaaWMore
import Derived.Test.YtppanpboejpmjaaTr0
import Derived.Test.YtppanpboejpmjaaFlowK
import Derived.Outline
set_option linter.all false
namespace Go.Proofs.Ytppanpboejpmjaa.Tr
open Go.RowKit Go.Proofs.YtppanpboejpmjaaW.PrintWords Go.Proofs.YtppanpboejpmjaaW.PrintLast Go.Proofs.YtppanpboejpmjaaW.PrintMore
set_option linter.unusedVariables false
theorem flow_heap84 : Kd.Heap k84 := Kd.heap_iso _ (Kd.heap_pair (Kd.heap_int _) (Kd.heap_pair (Kd.heap_int _) (Kd.heap_pair (Kd.heap_int _) (Kd.heap_pair (Kd.heap_int _) (Kd.heap_pair (Kd.heap_int _) (Kd.heap_pair (Kd.heap_int _) (Kd.heap_pair (Kd.heap_int _) (Kd.heap_pair (Kd.heap_int _) (Kd.heap_pair (Kd.heap_int _) (Kd.heap_pair (Kd.heap_slice _ (Kd.heap_int _)) Kd.heap_bool))))))))))
theorem flow_mapM {α β : Type} {f : α → Option β} : ∀ {l : List α} {r : List β}, l.mapM f = some r → r.length = l.length ∧ ∀ (j : Nat) (x : α), l[j]? = some x → ∃ y, f x = some y ∧ r[j]? = some y
  | [], r, h => by
    rw [List.mapM_nil] at h
    obtain rfl := Option.some.inj h
    exact ⟨rfl, fun j x hx => by simp at hx⟩
  | a :: l, r, h => by
    rw [List.mapM_cons] at h
    obtain ⟨y, hy, h⟩ := Option.bind_eq_some_iff.1 h
    obtain ⟨ys, hys, h⟩ := Option.bind_eq_some_iff.1 h
    obtain rfl := Option.some.inj h
    obtain ⟨h1, h2⟩ := flow_mapM hys
    refine ⟨by simp [h1], fun j x hx => ?_⟩
    cases j with
    | zero => have : a = x := by simpa using hx
              subst this; exact ⟨y, hy, rfl⟩
    | succ j => simpa using h2 j x (by simpa using hx)
theorem flow_Lv.start {w : World} {n : Nat} : flow_Lv w w (.slice none 0 0) (.slice none 0 0) [] [] [] [] n where
  oi := ⟨rfl, .inl ⟨rfl, rfl⟩⟩
  oo := ⟨rfl, .inl ⟨rfl, rfl⟩⟩
  li := rfl
  lo := rfl
  ri := fun i g l h => by simp at h
  ro := fun i g l h => by simp at h
  nd := List.nodup_nil
  gi := fun g h => by simp at h
  io := fun k h => by cases h
  below := Below.refl _ _
/-- the cells of the tables: where row i lies -/
theorem flow_cellOf {w : World} {base n i g : Nat} {v : Value} {G : List Nat} (h : w.ownsRow base 41 1 v G.length (G.map fun g => .slice (some ⟨g, 0, none⟩) n n)) (hg : G[i]? = some g) : ∃ b c, v = .slice (some ⟨b, 0, none⟩) G.length c ∧ w.cell? ⟨b, i, none⟩ = some (.slice (some ⟨g, 0, none⟩) n n) := by
  have hi := (List.getElem?_eq_some_iff.1 hg).1
  obtain ⟨h1, ⟨ev, h2⟩ | ⟨b, cap, cur, ev, h2, h3, h4, h5, h6, h7⟩⟩ := h
  · omega
  · refine ⟨b, cap, ev, ?_⟩
    rw [blk_cell h3]
    have : cur.toList.take (G.length * 1) = G.map fun g => .slice (some ⟨g, 0, none⟩) n n := h7
    have h8 := congrArg (fun l => l[i]?) this
    simp only [List.getElem?_map, hg, Option.map_some] at h8
    rw [List.getElem?_take_of_lt (by omega), Array.getElem?_toList] at h8
    exact h8
theorem flow_Lv.ne {w0 w : World} {vi vo : Value} {Gi Go : List Nat} {I O : List (List Bool)} {n i j a b : Nat} (h : flow_Lv w0 w vi vo Gi Go I O n) (ha : Gi[i]? = some a) (hb : Go[j]? = some b) : a ≠ b := by
  have hnd := List.nodup_append.1 h.nd
  intro e; subst e
  exact hnd.2.2 a (List.mem_of_getElem? ha) a (List.mem_of_getElem? hb) rfl
/-- ended, at a row of the second table -/
theorem flow_Lv.ended {wa w0 w : World} {vi vo : Value} {Gi Go : List Nat} {I O : List (List Bool)} {n i g : Nat} {l : List Bool} {A : Option Addr} {c : Nat} {l1 : List S84} {f1 f2 f3 f4 : Int} {r : List Bool} (h : flow_Lv w0 w vi vo Gi Go I O n) (hB : Below wa.heap.size wa w0) (hn : n ≤ 4000000000000) (hg : Go[i]? = some g) (hl : O[i]? = some l)
    (hr : Kd.C k84 wa A l1.length l1) (hc : l1.length ≤ c) (hf : flow_ended.f l l1 f1 f2 f3 f4 = some r) :
    Calls Try.prog 46 #[.slice (some ⟨g, 0, none⟩) n n, .agg #[.slice A l1.length c, .int .i64 f1, .int .i64 f2, .int .i64 f3, .int .i64 f4]] w fun e w' => e = .returned (.tuple #[]) ∧ flow_Lv w0 w' vi vo Gi Go I (O.set i r) n ∧ Kept w w' (fun k => k = g) := by
  have hge := (h.gi g (List.mem_append_right _ (List.mem_of_getElem? hg))).1
  refine (flow_ended.calls (fun k => k = g) _ l A c l1 f1 f2 f3 f4 r w0 w h.below (h.outRow hg hl hn) (Kd.C_kept_came flow_heap84 hr (below_step hB h.below) (fun k e => by have := hB.size; omega)) hc hf).mono ?_
  rintro e w' ⟨rfl, h1, h2, h3⟩
  exact ⟨rfl, h.setOut hg h1 h3 h2, h3⟩
/-- join, a row of the first table to one of the second -/
theorem flow_Lv.joinOut {k : Nat} {w0 w : World} {vi vo : Value} {Gi Go : List Nat} {I O : List (List Bool)} {n i j a b : Nat} {la lb : List Bool} {r : Bool × List Bool} (h : flow_Lv w0 w vi vo Gi Go I O n) (hn : n ≤ 4000000000000) (ha : Gi[i]? = some a) (hla : I[i]? = some la) (hb : Go[j]? = some b) (hlb : O[j]? = some lb)
    (hf : flow_join.f k lb la = some r) :
    Calls Try.prog 48 #[.slice (some ⟨b, 0, none⟩) n n, .slice (some ⟨a, 0, none⟩) n n] w fun e w' => e = .returned (.bool r.1) ∧ flow_Lv w0 w' vi vo Gi Go I (O.set j r.2) n ∧ Kept w w' (fun k => k = b) := by
  have hne := h.ne ha hb
  have hlen : la.length = n := (h.ri i a la ha hla).1
  have hin := h.inRow ha hla hn
  obtain ⟨r1, r2⟩ := r
  have hc := flow_join.calls k (fun k => k = b) (.slice (some ⟨b, 0, none⟩) n n) lb (some ⟨a, 0, none⟩) n la r1 r2 w0 w h.below (h.outRow hb hlb hn) (by
    have := Kd.C_kept_own (S := fun k => k = b) hin (fun k e1 e2 => hne (e1.symm.trans e2))
    rw [← (Kd.R_reads' hin).1] at *
    exact this) (by omega) hf
  rw [hlen] at hc
  refine hc.mono ?_
  rintro e w' ⟨rfl, h1, h2, h3⟩
  exact ⟨rfl, h.setOut hb h1 h3 h2, h3⟩
/-- a row of the call's own beside the tables -/
structure flow_Lw (w0 wc w' : World) (vi vo : Value) (Gi Go : List Nat) (I O : List (List Bool)) (n : Nat) (v : Value) (l : List Bool) : Prop where
  lv : flow_Lv w0 wc vi vo Gi Go I O n
  b : Below wc.heap.size wc w'
  r : Kd.R Kd.bool 4 w' wc.heap.size (fun k => wc.heap.size ≤ k) v l
/-- Clone of a row of the second table -/
theorem flow_Lv.clone {w0 w : World} {vi vo : Value} {Gi Go : List Nat} {I O : List (List Bool)} {n i g : Nat} {l : List Bool} (h : flow_Lv w0 w vi vo Gi Go I O n) (hn : n ≤ 4000000000000) (hg : Go[i]? = some g) (hl : O[i]? = some l) :
    Calls Try.prog 49 #[.slice (some ⟨g, 0, none⟩) n n] w fun e w' => ∃ A c, e = .returned (.slice A l.length c) ∧ flow_Lw w0 w w' vi vo Gi Go I O n (.slice A l.length c) l := by
  obtain ⟨h1, h2⟩ := h.ro i g l hg hl
  refine (flow_Clone w g n n l h1 hn h2).mono ?_
  rintro e w' ⟨v', rfl, hr, hb⟩
  obtain ⟨A, c, rfl⟩ := Kd.R_slice hr
  exact ⟨A, c, rfl, h, hb, Kd.R_mono (Kd.R_bound hr) (fun k hk => hk.2.1)⟩
/-- before, at that row -/
theorem flow_Lw.before {k : Nat} {wa w0 wc w : World} {vi vo v : Value} {Gi Go : List Nat} {I O : List (List Bool)} {n : Nat} {l r : List Bool} {f0 f1 f2 f3 f4 f5 f6 f7 f8 : Int} {A : Option Addr} {c : Nat} {l9 : List Int} {f10 : Bool} (h : flow_Lw w0 wc w vi vo Gi Go I O n v l) (hB : Below wa.heap.size wa w0)
    (hr : Kd.C (Kd.int .i64) wa A l9.length l9) (hc : l9.length ≤ c) (hf : flow_before.f k l f0 f1 f2 f3 f4 f5 f6 f7 f8 l9 f10 = some r) :
    Calls Try.prog 50 #[v, .agg #[.int .i64 f0, .int .i64 f1, .int .i64 f2, .int .i64 f3, .int .i64 f4, .int .i64 f5, .int .i64 f6, .int .i64 f7, .int .u32 f8, .slice A l9.length c, .bool f10]] w fun e w' => e = .returned (.tuple #[]) ∧ flow_Lw w0 wc w' vi vo Gi Go I O n v r := by
  have hb := below_step (below_step hB h.lv.below) h.b
  have hs := below_step hB h.lv.below
  refine (flow_before.calls k (fun k => wc.heap.size ≤ k) v l f0 f1 f2 f3 f4 f5 f6 f7 f8 A c l9 f10 r wc w h.b h.r (Kd.C_kept_came (Kd.heap_int _) hr hb (fun k e => by have := hs.size; omega)) hc hf).mono ?_
  rintro e w' ⟨rfl, h1, h2, h3⟩
  exact ⟨rfl, h.lv, h2, Kd.R_mono h1 (fun k hk => by have := h.b.size; omega)⟩
/-- join, that row to one of the first table -/
theorem flow_Lw.joinIn {k : Nat} {w0 wc w : World} {vi vo : Value} {Gi Go : List Nat} {I O : List (List Bool)} {n i a : Nat} {l la : List Bool} {A : Option Addr} {m c : Nat} {r : Bool × List Bool} (h : flow_Lw w0 wc w vi vo Gi Go I O n (.slice A m c) l) (hn : n ≤ 4000000000000) (ha : Gi[i]? = some a) (hla : I[i]? = some la)
    (hf : flow_join.f k la l = some r) :
    Calls Try.prog 48 #[.slice (some ⟨a, 0, none⟩) n n, .slice A m c] w fun e w' => e = .returned (.bool r.1) ∧ flow_Lv w0 w' vi vo Gi Go (I.set i r.2) O n := by
  have hL := h.lv.step h.b
  have hlt := (h.lv.gi a (List.mem_append_left _ (List.mem_of_getElem? ha))).2
  obtain ⟨e1, e2, _⟩ := Kd.R_reads' h.r
  subst e1
  obtain ⟨r1, r2⟩ := r
  refine (flow_join.calls k (fun k => k = a) (.slice (some ⟨a, 0, none⟩) n n) la A c l r1 r2 w0 w hL.below (hL.inRow ha hla hn) (Kd.C_kept_own h.r (fun k e1 e2 => by omega)) e2 hf).mono ?_
  rintro e w' ⟨rfl, h1, h2, h3⟩
  exact ⟨rfl, hL.setIn ha h1 h3 h2⟩
theorem flow_Lw.step {w0 wc w w2 : World} {vi vo v : Value} {Gi Go : List Nat} {I O : List (List Bool)} {n : Nat} {l : List Bool} (h : flow_Lw w0 wc w vi vo Gi Go I O n v l) (k : Below w.heap.size w w2) : flow_Lw w0 wc w2 vi vo Gi Go I O n v l := ⟨h.lv, below_step h.b k, Kd.R_below h.r k⟩
theorem flow_take_set {α : Type} (O0 : List α) (F : α) (N j : Nat) (hj : j < N) (r : α) (hO : O0.length = N) (hr : O0[j]? = some r) : (O0.take j ++ List.replicate (N - j) F).set j r = O0.take (j + 1) ++ List.replicate (N - (j + 1)) F := by
  have h1 : (O0.take j).length = j := by rw [List.length_take]; omega
  rw [List.set_append_right _ _ (by omega), h1, Nat.sub_self]
  have h2 : N - j = (N - (j + 1)) + 1 := by omega
  rw [h2, List.replicate_succ, List.set_cons_zero, List.take_succ, hr]
  simp
theorem flow_take_at {α : Type} (O0 : List α) (F : α) (N j : Nat) (hj : j < N) (hO : O0.length = N) : (O0.take j ++ List.replicate (N - j) F)[j]? = some F := by
  have h1 : (O0.take j).length = j := by rw [List.length_take]; omega
  rw [List.getElem?_append_right (by omega), h1, Nat.sub_self, List.getElem?_replicate, if_pos (by omega)]
theorem flow_Lv.lower {wa w w' : World} {vi vo : Value} {Gi Go : List Nat} {I O : List (List Bool)} {n : Nat} (h : flow_Lv w w' vi vo Gi Go I O n) (hB : Below wa.heap.size wa w) : flow_Lv wa w' vi vo Gi Go I O n where
  oi := own_weaken h.oi hB.size
  oo := own_weaken h.oo hB.size
  li := h.li
  lo := h.lo
  ri := h.ri
  ro := h.ro
  nd := h.nd
  gi := fun g hg => ⟨Nat.le_trans hB.size (h.gi g hg).1, (h.gi g hg).2⟩
  io := h.io
  below := below_step hB h.below
theorem flow_rev_step {α β : Type} {F : β → α → Option β} {l : List α} {u : Nat} (hu : u < l.length) {b r : β} (h : (l.take (u + 1)).reverse.foldlM F b = some r) : ∃ c, F b l[u] = some c ∧ (l.take u).reverse.foldlM F c = some r := by
  rw [List.take_succ_eq_append_getElem hu, List.reverse_append, List.reverse_singleton, List.singleton_append, List.foldlM_cons] at h
  exact Option.bind_eq_some_iff.1 h
theorem flow_drop_step {α β : Type} {F : β → α → Option β} {l : List α} {u : Nat} (hu : u < l.length) {b r : β} (h : (l.drop u).foldlM F b = some r) : ∃ c, F b l[u] = some c ∧ (l.drop (u + 1)).foldlM F c = some r := by
  rw [List.drop_eq_getElem_cons hu, List.foldlM_cons] at h
  exact Option.bind_eq_some_iff.1 h
theorem flow_cellAt {w : World} {base n i g N b c : Nat} {G : List Nat} (h : w.ownsRow base 41 1 (.slice (some ⟨b, 0, none⟩) N c) G.length (G.map fun g => .slice (some ⟨g, 0, none⟩) n n)) (hg : G[i]? = some g) : w.cell? ⟨b, i, none⟩ = some (.slice (some ⟨g, 0, none⟩) n n) := by
  obtain ⟨b', c', e, h2⟩ := flow_cellOf h hg
  injection e with e _ _
  injection e with e
  injection e with e
  subst e; exact h2
theorem flow_set_self {α : Type} {l : List α} {m : Nat} {b : α} (h : l[m]? = some b) : l.set m b = l := by
  apply List.ext_getElem?
  intro i
  by_cases e : m = i
  · subst e
    rw [List.getElem?_set_self (List.getElem?_eq_some_iff.1 h).1, h]
  · rw [List.getElem?_set_ne e]
theorem flow_getD {α : Type} {l : List α} {m : Nat} (d : α) (h : m < l.length) : l[m]? = some (l.getD m d) := by
  rw [List.getD_eq_getElem?_getD, List.getElem?_eq_getElem h]; rfl
theorem flow_R_max {w : World} {base : Nat} {ok : Nat → Prop} {v : Value} {l : List Int} (h : Kd.R (Kd.int .i64) 3 w base ok v l) : l.length ≤ 9223372036854775807 := by
  obtain ⟨inner, h1, ⟨ev, h2⟩ | ⟨g, cap, cur, ev, h2, h3, h4, h5, h6, h7⟩⟩ := Kd.R_own h
  · omega
  · unfold maxLen at h5; omega
end Go.Proofs.Ytppanpboejpmjaa.Tr
