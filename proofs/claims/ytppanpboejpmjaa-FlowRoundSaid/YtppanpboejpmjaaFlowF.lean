/- FlowF: functions of the program walked by hand, and what they come to. -/
import Derived.Test.YtppanpboejpmjaaProg
import Derived.Below
import Derived.Deep.Draws
import Derived.Deep.AppendLies
import Derived.Maps.AppendAt
import Derived.OwnWalk
import Derived.Laws.BytesArg
import Derived.Laws.MakeOwn
import Derived.Laws.OwnMore
import Derived.Deep.OwnRows
import Derived.Tactics
import Derived.Lib.ConvBytes
import Derived.Laws.Slices
import Derived.WalkKit
import Derived.KernelRfl
import Derived.RowKit3
import Derived.Deep.LoopGhost
import Derived.Deep.QuietTactic
import Derived.BigQuiet
import Derived.WideLaws
import Derived.Deep.DeepCutAuto
import Derived.Deep.CutBlock
import Derived.Deep.RegionHeld3
import Derived.Laws.Rows
import Derived.Lib.AppendStr
import Derived.ArgAppend
import Derived.Laws.IdiomCopy
import Derived.OrdersHeld
import Derived.Laws.BitsLemmas
import Derived.RowKit
import Derived.Shelf.SlicesE.DeleteFunc
import Derived.Test.YtppanpboejpmjaaWWords
import Derived.Test.YtppanpboejpmjaaWLast
import Derived.Test.YtppanpboejpmjaaWTab
import Derived.Test.YtppanpboejpmjaaWFour
import Derived.Test.YtppanpboejpmjaaWQPut
import Derived.Test.YtppanpboejpmjaaWApart
import Derived.Test.YtppanpboejpmjaaWArr
import Derived.Test.YtppanpboejpmjaaWZeros
import Derived.Test.YtppanpboejpmjaaWFoot
import Derived.Test.YtppanpboejpmjaaWKept
import Derived.Test.YtppanpboejpmjaaWShare
import Derived.Test.YtppanpboejpmjaaWN
import Derived.Test.YtppanpboejpmjaaWFootNe
import Derived.Test.YtppanpboejpmjaaWAt
import Derived.Test.YtppanpboejpmjaaWEqStruct
import Derived.Test.YtppanpboejpmjaaWRepsOne
import Derived.Test.YtppanpboejpmjaaWInv
import Derived.Test.YtppanpboejpmjaaWInvWords
import Derived.Test.YtppanpboejpmjaaWGuard
import Derived.Test.YtppanpboejpmjaaWNEv
import Derived.Test.YtppanpboejpmjaaWMore
import Derived.Test.YtppanpboejpmjaaTr0
import Derived.Test.YtppanpboejpmjaaFlowE
import Derived.Test.YtppanpboejpmjaaTr7
import Derived.Outline
set_option linter.all false
namespace Go.Proofs.Ytppanpboejpmjaa.Tr
open Go.RowKit Go.Proofs.YtppanpboejpmjaaW.PrintWords Go.Proofs.YtppanpboejpmjaaW.PrintLast Go.Proofs.YtppanpboejpmjaaW.PrintMore
set_option linter.unusedVariables false
theorem grown_kept {w0 w w' : World} {row : Option Nat} (hB : Below w0.heap.size w0 w) (hB' : Below w0.heap.size w0 w') (hk : Kept w w' (fun k => row = some k)) : w.grownBy w' row :=
  ⟨hB'.os.trans hB.os.symm, hB'.tape.trans hB.tape.symm, hB'.output.trans hB.output.symm, hk.1, fun k hk1 hk2 => hk.2 k hk1 (fun he => hk2 he.symm)⟩
theorem flow_St.order {w0 w w' : World} {wb sb : Nat} {p0 p1 p2 p3 p4 p5 vo vb : Value} {st ord ord' : List Int} {back : List (Int × Int)} (h : flow_St w0 w wb sb p0 p1 p2 p3 p4 p5 st vo ord vb back) (hk : Kept w w' (fun k => vo.ownBlock = some k)) (hB : Below w0.heap.size w0 w') (ho : w'.ownsRow w0.heap.size 3 1 vo ord'.length (nums .i64 ord')) : flow_St w0 w' wb sb p0 p1 p2 p3 p4 p5 st vo ord' vb back := by
  have hg := grown_kept h.below hB hk
  exact ⟨blk_other h.s hg (fun he => own_ne_type h.o h.s (by decide) wb he.symm rfl), blk_other h.d hg (fun he => h.no sb he.symm rfl), ho, own_other h.b hg (own_ne_own h.b h.o (by decide)), h.no, h.gw, h.gs, hB⟩
def flow_walked.f (k : Nat) (a0 : ByteArray) (a1 : Bool) (a2 a3 : Int) (l4 : List S76) (l5 : List S45) : Option (List Int × List Int × List (Int × Int)) :=
  (if l5.length = 0 then some (List.replicate l5.length 0, [], []) else flow_into.f k a0 a1 a2 a3 l4 l5 (List.replicate l5.length 0) [] [] 0).bind fun r => (slices_Reverse_int_int.f k r.2.1).bind fun o => some (r.1, o, r.2.2)
theorem flow_walk_start (w : World) (n : Nat) (o1 : Obj) (p0 p1 p2 p3 p4 p5 : Value) (hn : n ≤ 281474976710656) : flow_St w (((w.alloc o1).alloc (.cells (madeCells #[.int .i64 0] n) 3)).alloc (.cells #[p0, p1, p2, p3, p4, p5, .slice (some ⟨w.heap.size + 1, 0, none⟩) n n, .slice none 0 0, .slice none 0 0] 100)) (w.heap.size + 1 + 1) (w.heap.size + 1) p0 p1 p2 p3 p4 p5 (List.replicate n 0) (.slice none 0 0) [] (.slice none 0 0) [] where
  s := by
    have h := blk_new ((w.alloc o1).alloc (.cells (madeCells #[.int .i64 0] n) 3)) (.cells #[p0, p1, p2, p3, p4, p5, .slice (some ⟨w.heap.size + 1, 0, none⟩) n n, .slice none 0 0, .slice none 0 0] 100)
    rw [World.size_alloc, World.size_alloc] at h
    rw [List.length_replicate]; exact h
  d := by
    have e : madeCells #[.int .i64 0] n = (nums .i64 (List.replicate n 0)).toArray := by
      apply Array.ext'
      rw [toList_madeCells_one]; simp [nums]
    have h := blk_new (w.alloc o1) (.cells (madeCells #[.int .i64 0] n) 3)
    rw [World.size_alloc] at h
    rw [← e]
    exact blk_alloc h _
  o := ⟨rfl, .inl ⟨rfl, rfl⟩⟩
  b := ⟨rfl, .inl ⟨rfl, rfl⟩⟩
  no := fun k hk => by cases hk
  gw := by omega
  gs := by omega
  below := below_alloc (below_alloc (below_alloc (Below.refl _ _) _) _) _
set_option maxHeartbeats 8000000 in
set_option maxRecDepth 100000 in
theorem flow_walked.calls (k : Nat) (a0 : ByteArray) (a1 : Bool) (a2 a3 : Int) (A4 : Option Addr) (c4 : Nat) (l4 : List S76) (A5 : Option Addr) (c5 : Nat) (l5 : List S45) (r : List Int × List Int × List (Int × Int)) (w : World)
    (hr4 : Kd.C k76 w A4 l4.length l4) (hc4 : l4.length ≤ c4) (hr5 : Kd.C k45 w A5 l5.length l5) (hc5 : l5.length ≤ c5) (hn : l5.length ≤ 4000000000000) (h : flow_walked.f k a0 a1 a2 a3 l4 l5 = some r) :
    Calls Try.prog 52 #[.agg #[.string a0, .bool a1, .int .i64 a2, .int .i64 a3, .slice A4 l4.length c4, .slice A5 l5.length c5]] w fun e w' => ∃ wb sb vo vb, e = .returned (.pointer (some ⟨wb, 0, none⟩)) ∧ flow_St w w' wb sb (.string a0) (.bool a1) (.int .i64 a2) (.int .i64 a3) (.slice A4 l4.length c4) (.slice A5 l5.length c5) r.1 vo r.2.1 vb r.2.2 := by
  have hu100 := Try.underlying100
  have hu31 := Try.underlying31
  have hu46 := Try.underlying46
  have hm3 := run_make_row' (P := Try.prog) 46 3 (.int .i64 0) 8 Try.underlying46 (by kernel_rfl) rfl .i64 .i64 l5.length (by omega) (by omega)
  unfold flow_walked.f at h
  obtain ⟨r1, h1, h⟩ := Option.bind_eq_some_iff.1 h
  obtain ⟨o, h2, h⟩ := Option.bind_eq_some_iff.1 h
  obtain rfl := Option.some.inj h
  have HR4 := Aside0.mk hr4
  have HR5 := Aside0.mk hr5
  have HC4 := Aside0.mk hc4
  have HC5 := Aside0.mk hc5
  have H2 := Aside0.mk h2
  clear hr4 hr5 hc4 hc5 h2 h
  by_cases hz : l5.length = 0
  · rw [if_pos hz] at h1
    obtain rfl := Option.some.inj h1
    have b1 : decide (0 < (l5.length : Int)) = false := decide_eq_false (by omega)
    have b2 : decide (0 < l5.length) = false := decide_eq_false (by omega)
    clear hz h1
    go_enter Try.func52, Try.ntmps52
    go_upto_region 1 with (fail)
    go_region
    go_upto_region 2 with (fail)
    obtain ⟨w1, e1⟩ : ∃ w1, w1 = (((w.alloc (.cells #[.string a0, .bool a1, .int .i64 a2, .int .i64 a3, .slice A4 l4.length c4, .slice A5 l5.length c5] 31)).alloc (.cells (madeCells #[.int .i64 0] l5.length) 3)).alloc (.cells #[.string a0, .bool a1, .int .i64 a2, .int .i64 a3, .slice A4 l4.length c4, .slice A5 l5.length c5, .slice (some ⟨w.heap.size + 1, 0, none⟩) l5.length l5.length, .slice none 0 0, .slice none 0 0] 100)).drew := ⟨_, rfl⟩
    rw [← e1]
    have S1 := Aside0.mk (show flow_St w w1 (w.heap.size + 1 + 1) (w.heap.size + 1) (.string a0) (.bool a1) (.int .i64 a2) (.int .i64 a3) (.slice A4 l4.length c4) (.slice A5 l5.length c5) (List.replicate l5.length 0) (.slice none 0 0) [] (.slice none 0 0) [] from by rw [e1]; exact (flow_walk_start w l5.length _ _ _ _ _ _ _ (by omega)).step (below_drew (Below.refl _ _)))
    have f5 : w1.cell? ⟨w.heap.size, 5, none⟩ = some (.slice A5 l5.length c5) := by
      rw [e1]; exact (blk_cell (blk_drew (blk_alloc (blk_alloc (blk_new w _) _) _)) 5).trans rfl
    clear e1 hm3
    have f7 : w1.cell? ⟨w.heap.size + 1 + 1, 7, none⟩ = some (.slice none 0 0) := (blk_cell S1.out.s 7).trans rfl
    go_wp2_with (go_at_call 82; refine (slices_Reverse_int_int.calls k (fun k_ => (Value.slice none 0 0).ownBlock = some k_) (.slice none 0 0) [] o w _ S1.out.below (Kd.R_of_own S1.out.o (fun k hk => hk)) H2.out).mono ?_; rintro e w3 ⟨rfl, hR, hB3, hK3⟩; have S3 := Aside0.mk (S1.out.order hK3 hB3 (Kd.own_of_R hR)); clear hR hB3 hK3)
    go_ret
    exact ⟨_, _, _, _, rfl, S3.out⟩
  · rw [if_neg hz] at h1
    have b1 : decide (0 < (l5.length : Int)) = true := decide_eq_true (by omega)
    have b2 : decide (0 < l5.length) = true := decide_eq_true (by omega)
    have HI := Aside0.mk h1
    clear hz h1
    go_enter Try.func52, Try.ntmps52
    go_upto_region 1 with (fail)
    go_region
    go_upto_region 2 with (fail)
    obtain ⟨w1, e1⟩ : ∃ w1, w1 = (((w.alloc (.cells #[.string a0, .bool a1, .int .i64 a2, .int .i64 a3, .slice A4 l4.length c4, .slice A5 l5.length c5] 31)).alloc (.cells (madeCells #[.int .i64 0] l5.length) 3)).alloc (.cells #[.string a0, .bool a1, .int .i64 a2, .int .i64 a3, .slice A4 l4.length c4, .slice A5 l5.length c5, .slice (some ⟨w.heap.size + 1, 0, none⟩) l5.length l5.length, .slice none 0 0, .slice none 0 0] 100)).drew := ⟨_, rfl⟩
    rw [← e1]
    have S1 := Aside0.mk (show flow_St w w1 (w.heap.size + 1 + 1) (w.heap.size + 1) (.string a0) (.bool a1) (.int .i64 a2) (.int .i64 a3) (.slice A4 l4.length c4) (.slice A5 l5.length c5) (List.replicate l5.length 0) (.slice none 0 0) [] (.slice none 0 0) [] from by rw [e1]; exact (flow_walk_start w l5.length _ _ _ _ _ _ _ (by omega)).step (below_drew (Below.refl _ _)))
    have f5 : w1.cell? ⟨w.heap.size, 5, none⟩ = some (.slice A5 l5.length c5) := by
      rw [e1]; exact (blk_cell (blk_drew (blk_alloc (blk_alloc (blk_new w _) _) _)) 5).trans rfl
    clear e1 hm3
    go_upto_region 4 with (go_at_call 81; refine (flow_into.calls k a0 a1 a2 a3 A4 c4 l4 A5 c5 l5 _ [] [] r1 0 w _ (w.heap.size + 1 + 1) (w.heap.size + 1) (.slice none 0 0) (.slice none 0 0) S1.out HR4.out HC4.out HR5.out HC5.out HI.out).mono ?_; rintro e w2 ⟨rfl, vo, vb, hS⟩; have S2 := Aside0.mk hS; clear hS)
    have f7 : w2.cell? ⟨w.heap.size + 1 + 1, 7, none⟩ = some vo := (blk_cell S2.out.s 7).trans rfl
    obtain ⟨Ao, co, eo⟩ := Kd.R_slice (Kd.R_of_own (enc := Value.int .i64) (h1 := fun _ => rfl) (ok := fun _ => True) S2.out.o (fun _ _ => trivial))
    subst eo
    go_wp2_with (go_at_call 82; refine (slices_Reverse_int_int.calls k (fun k_ => (Value.slice Ao r1.2.1.length co).ownBlock = some k_) (.slice Ao r1.2.1.length co) r1.2.1 o w _ S2.out.below (Kd.R_of_own S2.out.o (fun k hk => hk)) H2.out).mono ?_; rintro e w3 ⟨rfl, hR, hB3, hK3⟩; have S3 := Aside0.mk (S2.out.order hK3 hB3 (Kd.own_of_R hR)); clear hR hB3 hK3)
    go_ret
    exact ⟨_, _, _, _, rfl, S3.out⟩
end Go.Proofs.Ytppanpboejpmjaa.Tr
