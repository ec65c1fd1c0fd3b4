/- FlowL: functions of the program walked by hand, and what they come to. -/
import Derived.Test.YtppanpboejpmjaaProg
import Derived.Below
import Derived.Deep.Draws
import Derived.Deep.AppendLies
import Derived.Maps.AppendAt
import Derived.OwnWalk
import Derived.Laws.BytesArg
import Derived.Laws.MakeOwn
import Derived.Laws.OwnMore
import Derived.Deep.OwnRows
import Derived.Tactics
import Derived.Lib.ConvBytes
import Derived.Laws.Slices
import Derived.WalkKit
import Derived.KernelRfl
import Derived.RowKit3
import Derived.Deep.LoopGhost
import Derived.Deep.QuietTactic
import Derived.BigQuiet
import Derived.WideLaws
import Derived.Deep.DeepCutAuto
import Derived.Deep.CutBlock
import Derived.Deep.RegionHeld3
import Derived.Laws.Rows
import Derived.Lib.AppendStr
import Derived.ArgAppend
import Derived.Laws.IdiomCopy
import Derived.OrdersHeld
import Derived.Laws.BitsLemmas
import Derived.RowKit
import Derived.Shelf.SlicesE.DeleteFunc
import Derived.Test.YtppanpboejpmjaaWWords
import Derived.Test.YtppanpboejpmjaaWLast
import Derived.Test.YtppanpboejpmjaaWTab
import Derived.Test.YtppanpboejpmjaaWFour
import Derived.Test.YtppanpboejpmjaaWQPut
import Derived.Test.YtppanpboejpmjaaWApart
import Derived.Test.YtppanpboejpmjaaWArr
import Derived.Test.YtppanpboejpmjaaWZeros
import Derived.Test.YtppanpboejpmjaaWFoot
import Derived.Test.YtppanpboejpmjaaWKept
import Derived.Test.YtppanpboejpmjaaWShare
import Derived.Test.YtppanpboejpmjaaWN
import Derived.Test.YtppanpboejpmjaaWFootNe
import Derived.Test.YtppanpboejpmjaaWAt
import Derived.Test.YtppanpboejpmjaaWEqStruct
import Derived.Test.YtppanpboejpmjaaWRepsOne
import Derived.Test.YtppanpboejpmjaaWInv
import Derived.Test.YtppanpboejpmjaaWInvWords
import Derived.Test.YtppanpboejpmjaaWGuard
import Derived.Test.YtppanpboejpmjaaWNEv
import Derived.Test.YtppanpboejpmjaaWMore
import Derived.Test.YtppanpboejpmjaaTr0
import Derived.Test.YtppanpboejpmjaaFlowM
import Derived.Test.YtppanpboejpmjaaWTab
import Derived.Outline
set_option linter.all false
namespace Go.Proofs.Ytppanpboejpmjaa.Tr
open Go.RowKit Go.Proofs.YtppanpboejpmjaaW.PrintWords Go.Proofs.YtppanpboejpmjaaW.PrintLast Go.Proofs.YtppanpboejpmjaaW.PrintMore
set_option linter.unusedVariables false
def flow_live4.T4 : Bool × List (List Nat × List Nat) := (true, [([], []), ([], []), ([1, 1], [1]), ([2], [2]), ([0, 3], [0, 3]), ([], []), ([], []), ([6, 6], [6]), ([7], [7]), ([5, 8, 4], [5, 8]), ([4, 9, 0, 1, 2, 3, 4], [0, 4]), ([9, 10, 0, 1, 2, 3, 4, 5, 6, 7, 8, 9, 10], [5, 9])])
def flow_live4.B4 : List Nat := [0, 0, 2, 6, 15, 0, 0, 64, 192, 511, 1023, 2047]
theorem flow_live4.tab4 : rtab .any (opsOf Try.f18 4) = flow_live4.T4 := by kernel_rfl
theorem flow_live4.bits4 : waitsOk flow_live4.T4.2 flow_live4.B4 = true := by kernel_rfl
def flow_live9.T9 : Bool × List (List Nat × List Nat) := (true, [([], []), ([], []), ([0, 1], [0, 1]), ([2], [2]), ([], []), ([3, 4], [3, 4])])
def flow_live9.B9 : List Nat := [0, 0, 3, 7, 0, 31]
theorem flow_live9.tab9 : rtab .any (opsOf Try.f18 9) = flow_live9.T9 := by kernel_rfl
theorem flow_live9.bits9 : waitsOk flow_live9.T9.2 flow_live9.B9 = true := by kernel_rfl
def flow_live20.T20 : Bool × List (List Nat × List Nat) := (true, [([], []), ([], []), ([0, 1], [0, 1]), ([2], [2]), ([], []), ([], []), ([4, 5], [4, 5]), ([6], [6]), ([3, 7], [3, 7])])
def flow_live20.B20 : List Nat := [0, 0, 3, 7, 0, 0, 48, 112, 255]
theorem flow_live20.tab20 : rtab .any (opsOf Try.f18 20) = flow_live20.T20 := by kernel_rfl
theorem flow_live20.bits20 : waitsOk flow_live20.T20.2 flow_live20.B20 = true := by kernel_rfl
set_option maxHeartbeats 8000000 in
set_option maxRecDepth 100000 in
theorem flow_Live.calls (k : Nat) (a0 : ByteArray) (a1 : Bool) (a2 a3 : Int) (A4 : Option Addr) (c4 : Nat) (l4 : List S76) (A5 : Option Addr) (c5 : Nat) (l5 : List S45) (r : List (List Bool) × List (List Bool)) (w0 : World)
    (hr4 : Kd.C k76 w0 A4 l4.length l4) (hc4 : l4.length ≤ c4) (hr5 : Kd.C k45 w0 A5 l5.length l5) (hc5 : l5.length ≤ c5) (h : flow_Live.f k a0 a1 a2 a3 l4 l5 = some r) :
    Calls Try.prog 18 #[.agg #[.string a0, .bool a1, .int .i64 a2, .int .i64 a3, .slice A4 l4.length c4, .slice A5 l5.length c5]] w0 fun e w' => ∃ vi vo Gi Go, e = .returned (.tuple #[vi, vo]) ∧ flow_Lv w0 w' vi vo Gi Go r.1 r.2 (max a3 0).toNat := by
  have hu31 := Try.underlying31
  have hu38 := Try.underlying38
  have hu41 := Try.underlying41
  have hu45 := Try.underlying45
  have hu29 := Try.underlying29
  unfold flow_Live.f at h
  by_cases hb : l5.length ≤ 4000000000 ∧ a3 ≤ 4000000000 ∧ ∀ x ∈ l5, x.f0.length ≤ 4000000000
  · rw [if_pos hb] at h
    obtain ⟨O0, hO, hX⟩ := Option.bind_eq_some_iff.1 h
    have HR4 := Aside0.mk hr4
    have HR5 := Aside0.mk hr5
    have HC4 := Aside0.mk hc4
    have HC5 := Aside0.mk hc5
    have HO := Aside0.mk hO
    have HX := Aside0.mk hX
    clear hr4 hc4 hr5 hc5 hO hX h
    obtain ⟨n, hn⟩ : ∃ n : Nat, (max a3 0).toNat = n := ⟨_, rfl⟩
    have h3 : max a3 0 = (n : Int) := by omega
    have hN := hb.1
    have ha3 := hb.2.1
    have HIL := Aside0.mk hb.2.2
    have hn4 : n ≤ 4000000000 := by omega
    rw [hn] at HO HX ⊢
    clear hb
    go_enter Try.func18, Try.ntmps18
    go_upto_region 3 with (fail)
    have BX := Aside0.mk (blk_new w0 (.cells #[.string a0, .bool a1, .int .i64 a2, .int .i64 a3, .slice A4 l4.length c4, .slice A5 l5.length c5] 31))
    have BW := Aside0.mk (below_alloc (Below.refl w0.heap.size w0) (.cells #[.string a0, .bool a1, .int .i64 a2, .int .i64 a3, .slice A4 l4.length c4, .slice A5 l5.length c5] 31))
    have hsz : w0.heap.size < (w0.alloc (.cells #[.string a0, .bool a1, .int .i64 a2, .int .i64 a3, .slice A4 l4.length c4, .slice A5 l5.length c5] 31)).heap.size := blk_lt BX.out
    generalize w0.alloc (.cells #[.string a0, .bool a1, .int .i64 a2, .int .i64 a3, .slice A4 l4.length c4, .slice A5 l5.length c5] 31) = w at BX BW hsz ⊢
    go_loopg [2, 3, 20] l5.length (fun kq v2 v3 v20 w' => ∃ (i : Nat) (Gi Go : List Nat) (Ai : Option Addr) (ci : Nat) (Ao : Option Addr) (co : Nat), v20 = .int .i64 i ∧ v2 = .slice Ai i ci ∧ v3 = .slice Ao i co ∧ Aside0 (kq + i = l5.length) ∧ i ≤ l5.length ∧ Gi.length = i ∧ Go.length = i ∧ Aside0 (flow_Lv w w' (.slice Ai i ci) (.slice Ao i co) Gi Go (List.replicate i (List.replicate n false)) (List.replicate i (List.replicate n false)) n))
    case atStart => exact ⟨0, [], [], none, 0, none, 0, rfl, rfl, rfl, ⟨rfl⟩, Nat.zero_le _, rfl, rfl, ⟨flow_Lv.start⟩⟩
    case round =>
      obtain ⟨i, Gi, Go, Ai, ci, Ao, co, rfl, rfl, rfl, HK, hi, hgi, hgo, HL⟩ := hrel
      by_cases hlt : i < l5.length
      · have q1 : (i : Int) < (l5.length : Int) := by omega
        go_upto_region 4 with (fail)
        have OI : Aside0 (wr.ownsRow w.heap.size 41 1 (.slice Ai i ci) i (Gi.map fun g => .slice (some ⟨g, 0, none⟩) n n)) := ⟨by have := HL.out.oi; rw [hgi] at this; exact this⟩
        have OO : Aside0 (wr.ownsRow w.heap.size 41 1 (.slice Ao i co) i (Go.map fun g => .slice (some ⟨g, 0, none⟩) n n)) := ⟨by have := HL.out.oo; rw [hgo] at this; exact this⟩
        refine start_ (n := 12) (S := fun w' => True) (ds := []) #[false, false, false, false, false, false, false, false, false, false, false, false] (by kernel_rfl) rfl rfl trivial (fun hHeld => ?_)
        refine with_tabW flow_live4.tab4 flow_live4.bits4 (fun HT_ HW_ => ?_)
        refine pure_ (i := 0) (N := some 22) (v := ?_) (a' := ?_) #[true, false, false, false, false, false, false, false, false, false, false, false] rfl rfl (any_of HT_.out (by kernel_rfl)) (fun _ _ _ h => h) (Or.inl ⟨by rfl, ?_⟩) ?_ ?_
        rotate_left
        · intro w'
          go_simp
          with_reducible rfl
        rotate_left
        · simp only [Act.put, List.setIfInBounds_toArray, List.set_cons_zero, List.set_cons_succ, i64_w, i32_w]
          rfl
        refine pure_ (i := 1) (N := some 23) (v := ?_) (a' := ?_) #[true, true, false, false, false, false, false, false, false, false, false, false] rfl rfl (any_of HT_.out (by kernel_rfl)) (fun _ _ _ h => h) (Or.inl ⟨by rfl, ?_⟩) ?_ ?_
        rotate_left
        · intro w'
          go_simp
          with_reducible rfl
        rotate_left
        · simp only [Act.put, List.setIfInBounds_toArray, List.set_cons_zero, List.set_cons_succ, i64_w, i32_w]
          rfl
        refine pure_ (i := 5) (N := some 27) (v := ?_) (a' := ?_) #[true, true, false, false, false, true, false, false, false, false, false, false] rfl rfl (any_of HT_.out (by kernel_rfl)) (fun _ _ _ h => h) (Or.inl ⟨by rfl, ?_⟩) ?_ ?_
        rotate_left
        · intro w'
          go_simp
          with_reducible rfl
        rotate_left
        · simp only [Act.put, List.setIfInBounds_toArray, List.set_cons_zero, List.set_cons_succ, i64_w, i32_w]
          rfl
        refine pure_ (i := 6) (N := some 28) (v := ?_) (a' := ?_) #[true, true, false, false, false, true, true, false, false, false, false, false] rfl rfl (any_of HT_.out (by kernel_rfl)) (fun _ _ _ h => h) (Or.inl ⟨by rfl, ?_⟩) ?_ ?_
        rotate_left
        · intro w'
          go_simp
          with_reducible rfl
        rotate_left
        · simp only [Act.put, List.setIfInBounds_toArray, List.set_cons_zero, List.set_cons_succ, i64_w, i32_w]
          rfl
        refine join_ (σ := Nat × Nat × Value × Nat × Nat) 3 #[true, true, true, true, true, true, true, true, true, false, false, false] (fun s_ => [(24, (.slice (some ⟨s_.1, 0, none⟩) n n)), (25, (.slice (some ⟨s_.2.1, 0, none⟩) 1 1)), (26, s_.2.2.1), (29, (.slice (some ⟨s_.2.2.2.1, 0, none⟩) n n)), (30, (.slice (some ⟨s_.2.2.2.2, 0, none⟩) 1 1))]) (fun s_ w' => flow_L4 w wr n i (.slice Ai i ci) (Gi.map fun g => .slice (some ⟨g, 0, none⟩) n n) 3 2 s_.1 s_.2.1 s_.2.2.1 s_.2.2.2.1 s_.2.2.2.2 w') ?_ ?_
        rotate_left
        · intro hJ2_3_4_7_8
          refine join_ (σ := Nat × Nat × Value × Nat × Nat) 4 #[true, true, true, true, true, true, true, true, false, false, false, false] (fun s_ => [(24, (.slice (some ⟨s_.1, 0, none⟩) n n)), (25, (.slice (some ⟨s_.2.1, 0, none⟩) 1 1)), (26, s_.2.2.1), (29, (.slice (some ⟨s_.2.2.2.1, 0, none⟩) n n))]) (fun s_ w' => flow_L4 w wr n i (.slice Ai i ci) (Gi.map fun g => .slice (some ⟨g, 0, none⟩) n n) 3 1 s_.1 s_.2.1 s_.2.2.1 s_.2.2.2.1 s_.2.2.2.2 w') ?_ ?_
          rotate_left
          · intro hJ2_3_4_7
            refine join_ (σ := Nat × Nat × Value × Nat × Nat) 4 #[true, true, true, true, false, true, true, true, true, false, false, false] (fun s_ => [(24, (.slice (some ⟨s_.1, 0, none⟩) n n)), (25, (.slice (some ⟨s_.2.1, 0, none⟩) 1 1)), (29, (.slice (some ⟨s_.2.2.2.1, 0, none⟩) n n)), (30, (.slice (some ⟨s_.2.2.2.2, 0, none⟩) 1 1))]) (fun s_ w' => flow_L4 w wr n i (.slice Ai i ci) (Gi.map fun g => .slice (some ⟨g, 0, none⟩) n n) 2 2 s_.1 s_.2.1 s_.2.2.1 s_.2.2.2.1 s_.2.2.2.2 w') ?_ ?_
            rotate_left
            · intro hJ2_3_7_8
              refine join_ (σ := Nat × Nat × Value × Nat × Nat) 5 #[true, true, true, true, true, true, true, false, false, false, false, false] (fun s_ => [(24, (.slice (some ⟨s_.1, 0, none⟩) n n)), (25, (.slice (some ⟨s_.2.1, 0, none⟩) 1 1)), (26, s_.2.2.1)]) (fun s_ w' => flow_L4 w wr n i (.slice Ai i ci) (Gi.map fun g => .slice (some ⟨g, 0, none⟩) n n) 3 0 s_.1 s_.2.1 s_.2.2.1 s_.2.2.2.1 s_.2.2.2.2 w') ?_ ?_
              rotate_left
              · intro hJ2_3_4
                refine join_ (σ := Nat × Nat × Value × Nat × Nat) 5 #[true, true, true, true, false, true, true, true, false, false, false, false] (fun s_ => [(24, (.slice (some ⟨s_.1, 0, none⟩) n n)), (25, (.slice (some ⟨s_.2.1, 0, none⟩) 1 1)), (29, (.slice (some ⟨s_.2.2.2.1, 0, none⟩) n n))]) (fun s_ w' => flow_L4 w wr n i (.slice Ai i ci) (Gi.map fun g => .slice (some ⟨g, 0, none⟩) n n) 2 1 s_.1 s_.2.1 s_.2.2.1 s_.2.2.2.1 s_.2.2.2.2 w') ?_ ?_
                rotate_left
                · intro hJ2_3_7
                  refine join_ (σ := Nat × Nat × Value × Nat × Nat) 5 #[true, true, true, false, false, true, true, true, true, false, false, false] (fun s_ => [(24, (.slice (some ⟨s_.1, 0, none⟩) n n)), (29, (.slice (some ⟨s_.2.2.2.1, 0, none⟩) n n)), (30, (.slice (some ⟨s_.2.2.2.2, 0, none⟩) 1 1))]) (fun s_ w' => flow_L4 w wr n i (.slice Ai i ci) (Gi.map fun g => .slice (some ⟨g, 0, none⟩) n n) 1 2 s_.1 s_.2.1 s_.2.2.1 s_.2.2.2.1 s_.2.2.2.2 w') ?_ ?_
                  rotate_left
                  · intro hJ2_7_8
                    refine join_ (σ := Nat × Nat × Value × Nat × Nat) 6 #[true, true, true, true, false, true, true, false, false, false, false, false] (fun s_ => [(24, (.slice (some ⟨s_.1, 0, none⟩) n n)), (25, (.slice (some ⟨s_.2.1, 0, none⟩) 1 1))]) (fun s_ w' => flow_L4 w wr n i (.slice Ai i ci) (Gi.map fun g => .slice (some ⟨g, 0, none⟩) n n) 2 0 s_.1 s_.2.1 s_.2.2.1 s_.2.2.2.1 s_.2.2.2.2 w') ?_ ?_
                    rotate_left
                    · intro hJ2_3
                      refine join_ (σ := Nat × Nat × Value × Nat × Nat) 6 #[true, true, true, false, false, true, true, true, false, false, false, false] (fun s_ => [(24, (.slice (some ⟨s_.1, 0, none⟩) n n)), (29, (.slice (some ⟨s_.2.2.2.1, 0, none⟩) n n))]) (fun s_ w' => flow_L4 w wr n i (.slice Ai i ci) (Gi.map fun g => .slice (some ⟨g, 0, none⟩) n n) 1 1 s_.1 s_.2.1 s_.2.2.1 s_.2.2.2.1 s_.2.2.2.2 w') ?_ ?_
                      rotate_left
                      · intro hJ2_7
                        refine join_ (σ := Nat × Nat × Value × Nat × Nat) 6 #[true, true, false, false, false, true, true, true, true, false, false, false] (fun s_ => [(29, (.slice (some ⟨s_.2.2.2.1, 0, none⟩) n n)), (30, (.slice (some ⟨s_.2.2.2.2, 0, none⟩) 1 1))]) (fun s_ w' => flow_L4 w wr n i (.slice Ai i ci) (Gi.map fun g => .slice (some ⟨g, 0, none⟩) n n) 0 2 s_.1 s_.2.1 s_.2.2.1 s_.2.2.2.1 s_.2.2.2.2 w') ?_ ?_
                        rotate_left
                        · intro hJ7_8
                          refine join_ (σ := Nat × Nat × Value × Nat × Nat) 7 #[true, true, true, false, false, true, true, false, false, false, false, false] (fun s_ => [(24, (.slice (some ⟨s_.1, 0, none⟩) n n))]) (fun s_ w' => flow_L4 w wr n i (.slice Ai i ci) (Gi.map fun g => .slice (some ⟨g, 0, none⟩) n n) 1 0 s_.1 s_.2.1 s_.2.2.1 s_.2.2.2.1 s_.2.2.2.2 w') ?_ ?_
                          rotate_left
                          · intro hJ2
                            refine join_ (σ := Nat × Nat × Value × Nat × Nat) 7 #[true, true, false, false, false, true, true, true, false, false, false, false] (fun s_ => [(29, (.slice (some ⟨s_.2.2.2.1, 0, none⟩) n n))]) (fun s_ w' => flow_L4 w wr n i (.slice Ai i ci) (Gi.map fun g => .slice (some ⟨g, 0, none⟩) n n) 0 1 s_.1 s_.2.1 s_.2.2.1 s_.2.2.2.1 s_.2.2.2.2 w') ?_ ?_
                            rotate_left
                            · intro hJ7
                              refine two_ (i := 2) (j := 7) (Ni := some 24) (Nj := some 29) #[true, true, true, false, false, true, true, false, false, false, false, false] #[true, true, false, false, false, true, true, true, false, false, false, false] rfl rfl rfl rfl (two_of HT_.out (by kernel_rfl)) (by decide) (by decide) (fun K hK => ?_) (fun K hK => ?_)
                              · skip
                                refine flow_step_make (by rfl) (.tmp 23) 41 4 (.bool false) 1 rfl hu41 flow_info4' rfl n rfl (by omega) (by omega) ?_
                                refine hK.out _ _ trivial (fun hHeld => ?_)
                                clear hK K
                                refine norm_ (a' := ?_) ?_ ?_
                                rotate_left
                                · show Act.put _ (some 24) _ = _
                                  simp only [Act.put, List.setIfInBounds_toArray, List.set_cons_zero, List.set_cons_succ, i64_w, i32_w]
                                  rfl
                                exact norm_ (by first | (simp only [putAll, Act.put, List.setIfInBounds_toArray, List.set_cons_zero, List.set_cons_succ]; done) | (simp only [putAll, Act.put, List.setIfInBounds_toArray, List.set_cons_zero, List.set_cons_succ]; rfl)) (hJ2 (wr.drew.heap.size, 0, .bool false, 0, 0) _ ((flow_L4.start (n := n) (i := i) (vi := .slice Ai i ci) (xs := Gi.map fun g => .slice (some ⟨g, 0, none⟩) n n) (g1 := 0) (h1 := 0) (v1 := .bool false) (g2 := 0) (h2 := 0) HL.out.below)).make1)
                              · skip
                                refine flow_step_make (by rfl) (.tmp 28) 41 4 (.bool false) 1 rfl hu41 flow_info4' rfl n rfl (by omega) (by omega) ?_
                                refine hK.out _ _ trivial (fun hHeld => ?_)
                                clear hK K
                                refine norm_ (a' := ?_) ?_ ?_
                                rotate_left
                                · show Act.put _ (some 29) _ = _
                                  simp only [Act.put, List.setIfInBounds_toArray, List.set_cons_zero, List.set_cons_succ, i64_w, i32_w]
                                  rfl
                                exact norm_ (by first | (simp only [putAll, Act.put, List.setIfInBounds_toArray, List.set_cons_zero, List.set_cons_succ]; done) | (simp only [putAll, Act.put, List.setIfInBounds_toArray, List.set_cons_zero, List.set_cons_succ]; rfl)) (hJ7 (0, 0, .bool false, wr.drew.heap.size, 0) _ ((flow_L4.start (n := n) (i := i) (vi := .slice Ai i ci) (xs := Gi.map fun g => .slice (some ⟨g, 0, none⟩) n n) (g1 := 0) (h1 := 0) (v1 := .bool false) (g2 := 0) (h2 := 0) HL.out.below)).make2)
                            · skip
                              rintro ⟨g1, h1, v1, g2, h2⟩ wn H_
                              have HN := Aside0.mk H_
                              clear H_
                              have hHeld := trivial
                              refine norm_ (a' := ?_) ?_ ?_
                              rotate_left
                              · simp only [putAll, Act.put, List.setIfInBounds_toArray, List.set_cons_zero, List.set_cons_succ]
                                rfl
                              refine two_ (i := 2) (j := 8) (Ni := some 24) (Nj := some 30) #[true, true, true, false, false, true, true, true, false, false, false, false] #[true, true, false, false, false, true, true, true, true, false, false, false] rfl rfl rfl rfl (two_of HT_.out (by kernel_rfl)) (by decide) (by decide) (fun K hK => ?_) (fun K hK => ?_)
                              · skip
                                refine flow_step_make (by rfl) (.tmp 23) 41 4 (.bool false) 1 rfl hu41 flow_info4' rfl n rfl (by omega) (by omega) ?_
                                refine hK.out _ _ trivial (fun hHeld => ?_)
                                clear hK K
                                refine norm_ (a' := ?_) ?_ ?_
                                rotate_left
                                · show Act.put _ (some 24) _ = _
                                  simp only [Act.put, List.setIfInBounds_toArray, List.set_cons_zero, List.set_cons_succ, i64_w, i32_w]
                                  rfl
                                exact norm_ (by first | (simp only [putAll, Act.put, List.setIfInBounds_toArray, List.set_cons_zero, List.set_cons_succ]; done) | (simp only [putAll, Act.put, List.setIfInBounds_toArray, List.set_cons_zero, List.set_cons_succ]; rfl)) (hJ2_7 (wn.heap.size, h1, v1, g2, h2) _ (HN.out).make1)
                              · skip
                                refine value_ (w1 := wn.alloc (.cells #[.slice (some ⟨g2, 0, none⟩) n n] 41)) (v := .slice (some ⟨wn.heap.size, 0, none⟩) 1 1) (by rfl) rfl ?_ ?_
                                · go_simp
                                refine hK.out _ _ trivial (fun hHeld => ?_)
                                clear hK K
                                refine norm_ (a' := ?_) ?_ ?_
                                rotate_left
                                · show Act.put _ (some 30) _ = _
                                  simp only [Act.put, List.setIfInBounds_toArray, List.set_cons_zero, List.set_cons_succ, i64_w, i32_w]
                                  rfl
                                exact norm_ (by first | (simp only [putAll, Act.put, List.setIfInBounds_toArray, List.set_cons_zero, List.set_cons_succ]; done) | (simp only [putAll, Act.put, List.setIfInBounds_toArray, List.set_cons_zero, List.set_cons_succ]; rfl)) (hJ7_8 (g1, h1, v1, g2, wn.heap.size) _ (HN.out).row2)
                          · skip
                            rintro ⟨g1, h1, v1, g2, h2⟩ wn H_
                            have HN := Aside0.mk H_
                            clear H_
                            have hHeld := trivial
                            refine norm_ (a' := ?_) ?_ ?_
                            rotate_left
                            · simp only [putAll, Act.put, List.setIfInBounds_toArray, List.set_cons_zero, List.set_cons_succ]
                              rfl
                            refine two_ (i := 3) (j := 7) (Ni := some 25) (Nj := some 29) #[true, true, true, true, false, true, true, false, false, false, false, false] #[true, true, true, false, false, true, true, true, false, false, false, false] rfl rfl rfl rfl (two_of HT_.out (by kernel_rfl)) (by decide) (by decide) (fun K hK => ?_) (fun K hK => ?_)
                            · skip
                              refine value_ (w1 := wn.alloc (.cells #[.slice (some ⟨g1, 0, none⟩) n n] 41)) (v := .slice (some ⟨wn.heap.size, 0, none⟩) 1 1) (by rfl) rfl ?_ ?_
                              · go_simp
                              refine hK.out _ _ trivial (fun hHeld => ?_)
                              clear hK K
                              refine norm_ (a' := ?_) ?_ ?_
                              rotate_left
                              · show Act.put _ (some 25) _ = _
                                simp only [Act.put, List.setIfInBounds_toArray, List.set_cons_zero, List.set_cons_succ, i64_w, i32_w]
                                rfl
                              exact norm_ (by first | (simp only [putAll, Act.put, List.setIfInBounds_toArray, List.set_cons_zero, List.set_cons_succ]; done) | (simp only [putAll, Act.put, List.setIfInBounds_toArray, List.set_cons_zero, List.set_cons_succ]; rfl)) (hJ2_3 (g1, wn.heap.size, v1, g2, h2) _ (HN.out).row1)
                            · skip
                              refine flow_step_make (by rfl) (.tmp 28) 41 4 (.bool false) 1 rfl hu41 flow_info4' rfl n rfl (by omega) (by omega) ?_
                              refine hK.out _ _ trivial (fun hHeld => ?_)
                              clear hK K
                              refine norm_ (a' := ?_) ?_ ?_
                              rotate_left
                              · show Act.put _ (some 29) _ = _
                                simp only [Act.put, List.setIfInBounds_toArray, List.set_cons_zero, List.set_cons_succ, i64_w, i32_w]
                                rfl
                              exact norm_ (by first | (simp only [putAll, Act.put, List.setIfInBounds_toArray, List.set_cons_zero, List.set_cons_succ]; done) | (simp only [putAll, Act.put, List.setIfInBounds_toArray, List.set_cons_zero, List.set_cons_succ]; rfl)) (hJ2_7 (g1, h1, v1, wn.heap.size, h2) _ (HN.out).make2)
                        · skip
                          rintro ⟨g1, h1, v1, g2, h2⟩ wn H_
                          have HN := Aside0.mk H_
                          clear H_
                          have hHeld := trivial
                          refine norm_ (a' := ?_) ?_ ?_
                          rotate_left
                          · simp only [putAll, Act.put, List.setIfInBounds_toArray, List.set_cons_zero, List.set_cons_succ]
                            rfl
                          refine one_ (i := 2) (N := some 24) #[true, true, true, false, false, true, true, true, true, false, false, false] rfl rfl (one_of HT_.out (by kernel_rfl)) (by decide) (fun K hK => ?_)
                          refine flow_step_make (by rfl) (.tmp 23) 41 4 (.bool false) 1 rfl hu41 flow_info4' rfl n rfl (by omega) (by omega) ?_
                          refine hK.out _ _ trivial (fun hHeld => ?_)
                          clear hK K
                          refine norm_ (a' := ?_) ?_ ?_
                          rotate_left
                          · show Act.put _ (some 24) _ = _
                            simp only [Act.put, List.setIfInBounds_toArray, List.set_cons_zero, List.set_cons_succ, i64_w, i32_w]
                            rfl
                          exact norm_ (by first | (simp only [putAll, Act.put, List.setIfInBounds_toArray, List.set_cons_zero, List.set_cons_succ]; done) | (simp only [putAll, Act.put, List.setIfInBounds_toArray, List.set_cons_zero, List.set_cons_succ]; rfl)) (hJ2_7_8 (wn.heap.size, h1, v1, g2, h2) _ (HN.out).make1)
                      · skip
                        rintro ⟨g1, h1, v1, g2, h2⟩ wn H_
                        have HN := Aside0.mk H_
                        clear H_
                        have hHeld := trivial
                        refine norm_ (a' := ?_) ?_ ?_
                        rotate_left
                        · simp only [putAll, Act.put, List.setIfInBounds_toArray, List.set_cons_zero, List.set_cons_succ]
                          rfl
                        refine two_ (i := 3) (j := 8) (Ni := some 25) (Nj := some 30) #[true, true, true, true, false, true, true, true, false, false, false, false] #[true, true, true, false, false, true, true, true, true, false, false, false] rfl rfl rfl rfl (two_of HT_.out (by kernel_rfl)) (by decide) (by decide) (fun K hK => ?_) (fun K hK => ?_)
                        · skip
                          refine value_ (w1 := wn.alloc (.cells #[.slice (some ⟨g1, 0, none⟩) n n] 41)) (v := .slice (some ⟨wn.heap.size, 0, none⟩) 1 1) (by rfl) rfl ?_ ?_
                          · go_simp
                          refine hK.out _ _ trivial (fun hHeld => ?_)
                          clear hK K
                          refine norm_ (a' := ?_) ?_ ?_
                          rotate_left
                          · show Act.put _ (some 25) _ = _
                            simp only [Act.put, List.setIfInBounds_toArray, List.set_cons_zero, List.set_cons_succ, i64_w, i32_w]
                            rfl
                          exact norm_ (by first | (simp only [putAll, Act.put, List.setIfInBounds_toArray, List.set_cons_zero, List.set_cons_succ]; done) | (simp only [putAll, Act.put, List.setIfInBounds_toArray, List.set_cons_zero, List.set_cons_succ]; rfl)) (hJ2_3_7 (g1, wn.heap.size, v1, g2, h2) _ (HN.out).row1)
                        · skip
                          refine value_ (w1 := wn.alloc (.cells #[.slice (some ⟨g2, 0, none⟩) n n] 41)) (v := .slice (some ⟨wn.heap.size, 0, none⟩) 1 1) (by rfl) rfl ?_ ?_
                          · go_simp
                          refine hK.out _ _ trivial (fun hHeld => ?_)
                          clear hK K
                          refine norm_ (a' := ?_) ?_ ?_
                          rotate_left
                          · show Act.put _ (some 30) _ = _
                            simp only [Act.put, List.setIfInBounds_toArray, List.set_cons_zero, List.set_cons_succ, i64_w, i32_w]
                            rfl
                          exact norm_ (by first | (simp only [putAll, Act.put, List.setIfInBounds_toArray, List.set_cons_zero, List.set_cons_succ]; done) | (simp only [putAll, Act.put, List.setIfInBounds_toArray, List.set_cons_zero, List.set_cons_succ]; rfl)) (hJ2_7_8 (g1, h1, v1, g2, wn.heap.size) _ (HN.out).row2)
                    · skip
                      rintro ⟨g1, h1, v1, g2, h2⟩ wn H_
                      have HN := Aside0.mk H_
                      clear H_
                      have hHeld := trivial
                      refine norm_ (a' := ?_) ?_ ?_
                      rotate_left
                      · simp only [putAll, Act.put, List.setIfInBounds_toArray, List.set_cons_zero, List.set_cons_succ]
                        rfl
                      refine two_ (i := 4) (j := 7) (Ni := some 26) (Nj := some 29) #[true, true, true, true, true, true, true, false, false, false, false, false] #[true, true, true, true, false, true, true, true, false, false, false, false] rfl rfl rfl rfl (two_of HT_.out (by kernel_rfl)) (by decide) (by decide) (fun K hK => ?_) (fun K hK => ?_)
                      · skip
                        refine flow_step_append (w0 := w) w.heap.size (by rfl) (.tmp 22) (.tmp 25) 38 41 (.slice none 0 0) 1 24 rfl hu38 flow_info41 rfl (by decide) (by decide) (.slice Ai i ci) i (Gi.map fun g => .slice (some ⟨g, 0, none⟩) n n) [.slice (some ⟨g1, 0, none⟩) n n] h1 rfl rfl rfl (HN.out.h1F rfl).2 (by intro u hu; simp at hu; subst hu; rfl) (HN.out.own1 OI.out) HN.out.below HN.out.below.size (by omega) ?_
                        intro v8 w8 hown8 hB8 hg8 hat8
                        have S8 := Aside0.mk (HN.out.app1 OI.out hown8 hB8 hg8 hat8)
                        clear hown8 hB8 hg8 hat8
                        refine hK.out _ _ trivial (fun hHeld => ?_)
                        clear hK K
                        refine norm_ (a' := ?_) ?_ ?_
                        rotate_left
                        · show Act.put _ (some 26) _ = _
                          simp only [Act.put, List.setIfInBounds_toArray, List.set_cons_zero, List.set_cons_succ, i64_w, i32_w]
                          rfl
                        exact norm_ (by first | (simp only [putAll, Act.put, List.setIfInBounds_toArray, List.set_cons_zero, List.set_cons_succ]; done) | (simp only [putAll, Act.put, List.setIfInBounds_toArray, List.set_cons_zero, List.set_cons_succ]; rfl)) (hJ2_3_4 (g1, h1, v8, g2, h2) _ S8.out)
                      · skip
                        refine flow_step_make (by rfl) (.tmp 28) 41 4 (.bool false) 1 rfl hu41 flow_info4' rfl n rfl (by omega) (by omega) ?_
                        refine hK.out _ _ trivial (fun hHeld => ?_)
                        clear hK K
                        refine norm_ (a' := ?_) ?_ ?_
                        rotate_left
                        · show Act.put _ (some 29) _ = _
                          simp only [Act.put, List.setIfInBounds_toArray, List.set_cons_zero, List.set_cons_succ, i64_w, i32_w]
                          rfl
                        exact norm_ (by first | (simp only [putAll, Act.put, List.setIfInBounds_toArray, List.set_cons_zero, List.set_cons_succ]; done) | (simp only [putAll, Act.put, List.setIfInBounds_toArray, List.set_cons_zero, List.set_cons_succ]; rfl)) (hJ2_3_7 (g1, h1, v1, wn.heap.size, h2) _ (HN.out).make2)
                  · skip
                    rintro ⟨g1, h1, v1, g2, h2⟩ wn H_
                    have HN := Aside0.mk H_
                    clear H_
                    have hHeld := trivial
                    refine norm_ (a' := ?_) ?_ ?_
                    rotate_left
                    · simp only [putAll, Act.put, List.setIfInBounds_toArray, List.set_cons_zero, List.set_cons_succ]
                      rfl
                    refine one_ (i := 3) (N := some 25) #[true, true, true, true, false, true, true, true, true, false, false, false] rfl rfl (one_of HT_.out (by kernel_rfl)) (by decide) (fun K hK => ?_)
                    refine value_ (w1 := wn.alloc (.cells #[.slice (some ⟨g1, 0, none⟩) n n] 41)) (v := .slice (some ⟨wn.heap.size, 0, none⟩) 1 1) (by rfl) rfl ?_ ?_
                    · go_simp
                    refine hK.out _ _ trivial (fun hHeld => ?_)
                    clear hK K
                    refine norm_ (a' := ?_) ?_ ?_
                    rotate_left
                    · show Act.put _ (some 25) _ = _
                      simp only [Act.put, List.setIfInBounds_toArray, List.set_cons_zero, List.set_cons_succ, i64_w, i32_w]
                      rfl
                    exact norm_ (by first | (simp only [putAll, Act.put, List.setIfInBounds_toArray, List.set_cons_zero, List.set_cons_succ]; done) | (simp only [putAll, Act.put, List.setIfInBounds_toArray, List.set_cons_zero, List.set_cons_succ]; rfl)) (hJ2_3_7_8 (g1, wn.heap.size, v1, g2, h2) _ (HN.out).row1)
                · skip
                  rintro ⟨g1, h1, v1, g2, h2⟩ wn H_
                  have HN := Aside0.mk H_
                  clear H_
                  have hHeld := trivial
                  refine norm_ (a' := ?_) ?_ ?_
                  rotate_left
                  · simp only [putAll, Act.put, List.setIfInBounds_toArray, List.set_cons_zero, List.set_cons_succ]
                    rfl
                  refine two_ (i := 4) (j := 8) (Ni := some 26) (Nj := some 30) #[true, true, true, true, true, true, true, true, false, false, false, false] #[true, true, true, true, false, true, true, true, true, false, false, false] rfl rfl rfl rfl (two_of HT_.out (by kernel_rfl)) (by decide) (by decide) (fun K hK => ?_) (fun K hK => ?_)
                  · skip
                    refine flow_step_append (w0 := w) w.heap.size (by rfl) (.tmp 22) (.tmp 25) 38 41 (.slice none 0 0) 1 24 rfl hu38 flow_info41 rfl (by decide) (by decide) (.slice Ai i ci) i (Gi.map fun g => .slice (some ⟨g, 0, none⟩) n n) [.slice (some ⟨g1, 0, none⟩) n n] h1 rfl rfl rfl (HN.out.h1F rfl).2 (by intro u hu; simp at hu; subst hu; rfl) (HN.out.own1 OI.out) HN.out.below HN.out.below.size (by omega) ?_
                    intro v8 w8 hown8 hB8 hg8 hat8
                    have S8 := Aside0.mk (HN.out.app1 OI.out hown8 hB8 hg8 hat8)
                    clear hown8 hB8 hg8 hat8
                    refine hK.out _ _ trivial (fun hHeld => ?_)
                    clear hK K
                    refine norm_ (a' := ?_) ?_ ?_
                    rotate_left
                    · show Act.put _ (some 26) _ = _
                      simp only [Act.put, List.setIfInBounds_toArray, List.set_cons_zero, List.set_cons_succ, i64_w, i32_w]
                      rfl
                    exact norm_ (by first | (simp only [putAll, Act.put, List.setIfInBounds_toArray, List.set_cons_zero, List.set_cons_succ]; done) | (simp only [putAll, Act.put, List.setIfInBounds_toArray, List.set_cons_zero, List.set_cons_succ]; rfl)) (hJ2_3_4_7 (g1, h1, v8, g2, h2) _ S8.out)
                  · skip
                    refine value_ (w1 := wn.alloc (.cells #[.slice (some ⟨g2, 0, none⟩) n n] 41)) (v := .slice (some ⟨wn.heap.size, 0, none⟩) 1 1) (by rfl) rfl ?_ ?_
                    · go_simp
                    refine hK.out _ _ trivial (fun hHeld => ?_)
                    clear hK K
                    refine norm_ (a' := ?_) ?_ ?_
                    rotate_left
                    · show Act.put _ (some 30) _ = _
                      simp only [Act.put, List.setIfInBounds_toArray, List.set_cons_zero, List.set_cons_succ, i64_w, i32_w]
                      rfl
                    exact norm_ (by first | (simp only [putAll, Act.put, List.setIfInBounds_toArray, List.set_cons_zero, List.set_cons_succ]; done) | (simp only [putAll, Act.put, List.setIfInBounds_toArray, List.set_cons_zero, List.set_cons_succ]; rfl)) (hJ2_3_7_8 (g1, h1, v1, g2, wn.heap.size) _ (HN.out).row2)
              · skip
                rintro ⟨g1, h1, v1, g2, h2⟩ wn H_
                have HN := Aside0.mk H_
                clear H_
                have hHeld := trivial
                refine norm_ (a' := ?_) ?_ ?_
                rotate_left
                · simp only [putAll, Act.put, List.setIfInBounds_toArray, List.set_cons_zero, List.set_cons_succ]
                  rfl
                refine one_ (i := 7) (N := some 29) #[true, true, true, true, true, true, true, true, false, false, false, false] rfl rfl (one_of HT_.out (by kernel_rfl)) (by decide) (fun K hK => ?_)
                refine flow_step_make (by rfl) (.tmp 28) 41 4 (.bool false) 1 rfl hu41 flow_info4' rfl n rfl (by omega) (by omega) ?_
                refine hK.out _ _ trivial (fun hHeld => ?_)
                clear hK K
                refine norm_ (a' := ?_) ?_ ?_
                rotate_left
                · show Act.put _ (some 29) _ = _
                  simp only [Act.put, List.setIfInBounds_toArray, List.set_cons_zero, List.set_cons_succ, i64_w, i32_w]
                  rfl
                exact norm_ (by first | (simp only [putAll, Act.put, List.setIfInBounds_toArray, List.set_cons_zero, List.set_cons_succ]; done) | (simp only [putAll, Act.put, List.setIfInBounds_toArray, List.set_cons_zero, List.set_cons_succ]; rfl)) (hJ2_3_4_7 (g1, h1, v1, wn.heap.size, h2) _ (HN.out).make2)
            · skip
              rintro ⟨g1, h1, v1, g2, h2⟩ wn H_
              have HN := Aside0.mk H_
              clear H_
              have hHeld := trivial
              refine norm_ (a' := ?_) ?_ ?_
              rotate_left
              · simp only [putAll, Act.put, List.setIfInBounds_toArray, List.set_cons_zero, List.set_cons_succ]
                rfl
              refine one_ (i := 4) (N := some 26) #[true, true, true, true, true, true, true, true, true, false, false, false] rfl rfl (one_of HT_.out (by kernel_rfl)) (by decide) (fun K hK => ?_)
              refine flow_step_append (w0 := w) w.heap.size (by rfl) (.tmp 22) (.tmp 25) 38 41 (.slice none 0 0) 1 24 rfl hu38 flow_info41 rfl (by decide) (by decide) (.slice Ai i ci) i (Gi.map fun g => .slice (some ⟨g, 0, none⟩) n n) [.slice (some ⟨g1, 0, none⟩) n n] h1 rfl rfl rfl (HN.out.h1F rfl).2 (by intro u hu; simp at hu; subst hu; rfl) (HN.out.own1 OI.out) HN.out.below HN.out.below.size (by omega) ?_
              intro v8 w8 hown8 hB8 hg8 hat8
              have S8 := Aside0.mk (HN.out.app1 OI.out hown8 hB8 hg8 hat8)
              clear hown8 hB8 hg8 hat8
              refine hK.out _ _ trivial (fun hHeld => ?_)
              clear hK K
              refine norm_ (a' := ?_) ?_ ?_
              rotate_left
              · show Act.put _ (some 26) _ = _
                simp only [Act.put, List.setIfInBounds_toArray, List.set_cons_zero, List.set_cons_succ, i64_w, i32_w]
                rfl
              exact norm_ (by first | (simp only [putAll, Act.put, List.setIfInBounds_toArray, List.set_cons_zero, List.set_cons_succ]; done) | (simp only [putAll, Act.put, List.setIfInBounds_toArray, List.set_cons_zero, List.set_cons_succ]; rfl)) (hJ2_3_4_7_8 (g1, h1, v8, g2, h2) _ S8.out)
          · skip
            rintro ⟨g1, h1, v1, g2, h2⟩ wn H_
            have HN := Aside0.mk H_
            clear H_
            have hHeld := trivial
            refine norm_ (a' := ?_) ?_ ?_
            rotate_left
            · simp only [putAll, Act.put, List.setIfInBounds_toArray, List.set_cons_zero, List.set_cons_succ]
              rfl
            refine one_ (i := 8) (N := some 30) #[true, true, true, true, true, true, true, true, true, false, false, false] rfl rfl (one_of HT_.out (by kernel_rfl)) (by decide) (fun K hK => ?_)
            refine value_ (w1 := wn.alloc (.cells #[.slice (some ⟨g2, 0, none⟩) n n] 41)) (v := .slice (some ⟨wn.heap.size, 0, none⟩) 1 1) (by rfl) rfl ?_ ?_
            · go_simp
            refine hK.out _ _ trivial (fun hHeld => ?_)
            clear hK K
            refine norm_ (a' := ?_) ?_ ?_
            rotate_left
            · show Act.put _ (some 30) _ = _
              simp only [Act.put, List.setIfInBounds_toArray, List.set_cons_zero, List.set_cons_succ, i64_w, i32_w]
              rfl
            exact norm_ (by first | (simp only [putAll, Act.put, List.setIfInBounds_toArray, List.set_cons_zero, List.set_cons_succ]; done) | (simp only [putAll, Act.put, List.setIfInBounds_toArray, List.set_cons_zero, List.set_cons_succ]; rfl)) (hJ2_3_4_7_8 (g1, h1, v1, g2, wn.heap.size) _ (HN.out).row2)
        rintro ⟨g1, h1, v1, g2, h2⟩ wn H_
        have HN := Aside0.mk H_
        clear H_
        have hHeld := trivial
        refine norm_ (a' := ?_) ?_ ?_
        rotate_left
        · simp only [putAll, Act.put, List.setIfInBounds_toArray, List.set_cons_zero, List.set_cons_succ]
          rfl
        refine one_ (i := 9) (N := some 31) #[true, true, true, true, true, true, true, true, true, true, false, false] rfl rfl (one_of HT_.out (by kernel_rfl)) (by decide) (fun K hK => ?_)
        refine flow_step_append (w0 := w) w.heap.size (by rfl) (.tmp 27) (.tmp 30) 38 41 (.slice none 0 0) 1 24 rfl hu38 flow_info41 rfl (by decide) (by decide) (.slice Ao i co) i (Go.map fun g => .slice (some ⟨g, 0, none⟩) n n) [.slice (some ⟨g2, 0, none⟩) n n] h2 rfl rfl rfl (HN.out.h2F rfl).2 (by intro u hu; simp at hu; subst hu; rfl) (HN.out.own2 HL.out OI.out OO.out) HN.out.below HN.out.below.size (by omega) ?_
        intro v9 w9 hown9 hB9 hg9 hat9
        have S9 := Aside0.mk (HN.out.app2 HL.out hgi hgo hown9 hB9 hg9 hat9)
        clear hown9 hB9 hg9 hat9
        refine hK.out _ _ trivial (fun hHeld => ?_)
        clear hK K
        refine norm_ (a' := ?_) ?_ ?_
        rotate_left
        · show Act.put _ (some 31) _ = _
          simp only [Act.put, List.setIfInBounds_toArray, List.set_cons_zero, List.set_cons_succ, i64_w, i32_w]
          rfl
        refine pure_ (i := 10) (N := some 2) (v := ?_) (a' := ?_) #[true, true, true, true, true, true, true, true, true, true, true, false] rfl rfl (any_of HT_.out (by kernel_rfl)) (fun _ _ _ h => h) (Or.inl ⟨by rfl, ?_⟩) ?_ ?_
        rotate_left
        · intro w'
          go_simp
          with_reducible rfl
        rotate_left
        · simp only [Act.put, List.setIfInBounds_toArray, List.set_cons_zero, List.set_cons_succ, i64_w, i32_w]
          rfl
        refine pure_ (i := 11) (N := some 3) (v := ?_) (a' := ?_) #[true, true, true, true, true, true, true, true, true, true, true, true] rfl rfl (any_of HT_.out (by kernel_rfl)) (fun _ _ _ h => h) (Or.inl ⟨by rfl, ?_⟩) ?_ ?_
        rotate_left
        · intro w'
          go_simp
          with_reducible rfl
        rotate_left
        · simp only [Act.put, List.setIfInBounds_toArray, List.set_cons_zero, List.set_cons_succ, i64_w, i32_w]
          rfl
        refine done_ (done_of HT_.out (by kernel_rfl)) ?_
        have S10 := S9.out
        obtain ⟨bi, ci2, ei⟩ := own_shape S10.oi (by simp)
        obtain ⟨bo, co2, eo⟩ := own_shape S10.oo (by simp)
        have li : (Gi ++ [g1]).length = i + 1 := by simp [hgi]
        have lo : (Go ++ [g2]).length = i + 1 := by simp [hgo]
        rw [li] at ei
        rw [lo] at eo
        subst ei; subst eo
        clear S10 OI OO HL HN
        go_wp2
        go_roundg (gk - 1)
        case measure => have := HK.out; omega
        case rel => exact ⟨i + 1, Gi ++ [g1], Go ++ [g2], _, _, _, _, by go_num, rfl, rfl, ⟨by have := HK.out; omega⟩, by omega, li, lo, S9⟩
      · have hie : i = l5.length := by omega
        subst hie
        clear hlt hi HK
        have f5 : wr.cell? ⟨w0.heap.size, 5, none⟩ = some (.slice A5 l5.length c5) := (blk_cell (blk_below BX.out HL.out.below) 5).trans rfl
        go_upto_region 7 with (fail)
        go_loopg [36] l5.length (fun kq v36 w' => ∃ j : Nat, v36 = .int .i64 j ∧ Aside0 (kq + j = l5.length) ∧ j ≤ l5.length ∧ Aside0 (flow_Lv w w' (.slice Ai l5.length ci) (.slice Ao l5.length co) Gi Go (List.replicate l5.length (List.replicate n false)) (O0.take j ++ List.replicate (l5.length - j) (List.replicate n false)) n))
        case atStart => exact ⟨0, rfl, ⟨rfl⟩, by omega, ⟨by simpa using HL.out⟩⟩
        case round =>
          clear HL
          obtain ⟨j, rfl, HK2, hj, HL⟩ := hrel
          have HO2 := Aside0.mk (flow_mapM HO.out)
          by_cases hjt : j < l5.length
          · have HBr := Aside0.mk (below_step BW.out HL.out.below)
            have p1 : 0 ≤ (j : Int) := Int.natCast_nonneg _
            have q1 : (j : Int) < (l5.length : Int) := by omega
            obtain ⟨ad, A0, c0, e5, x0, x1, x2, x3, x4, hl0, g0⟩ := at_T45 HR5.out (j : Int) p1 q1
            cases e5
            replace x0 := (HBr.out.cell (World.block_lt_of_cell? w0 _ x0)).trans x0
            replace x1 := (HBr.out.cell (World.block_lt_of_cell? w0 _ x1)).trans x1
            replace x2 := (HBr.out.cell (World.block_lt_of_cell? w0 _ x2)).trans x2
            replace x3 := (HBr.out.cell (World.block_lt_of_cell? w0 _ x3)).trans x3
            replace x4 := (HBr.out.cell (World.block_lt_of_cell? w0 _ x4)).trans x4
            rw [Int.toNat_natCast] at x0 x1 x2 x3 x4
            have HE0 := Aside0.mk g0
            have HEL := Aside0.mk hl0
            have hx5 : rd_T45 l5 (j : Int) = l5[j] := by simp [rd_T45, hjt]
            have HE5 : Aside0 (∃ y, flow_ended.f (List.replicate n false) (rd_T45 l5 (j : Int)).f0 (rd_T45 l5 (j : Int)).f1 (rd_T45 l5 (j : Int)).f2 (rd_T45 l5 (j : Int)).f3 (rd_T45 l5 (j : Int)).f4 = some y ∧ O0[j]? = some y) := ⟨by rw [hx5]; exact HO2.out.2 j _ (List.getElem?_eq_getElem hjt)⟩
            clear g0 hl0 hx5
            generalize rd_T45 l5 (j : Int) = x5 at *
            replace p1 := eq_true p1
            replace q1 := eq_true q1
            obtain ⟨gg, hgg⟩ : ∃ gg, Go[j]? = some gg := ⟨_, List.getElem?_eq_getElem (show j < Go.length by omega)⟩
            have hcl := flow_cellOf HL.out.oo hgg
            obtain ⟨bo, co', eo, hco⟩ := hcl
            injection eo with eo en ec; clear en
            subst eo; subst ec
            have hll := flow_take_at O0 (List.replicate n false) l5.length j hjt HO2.out.1
            obtain ⟨yj, hy1, hy2⟩ := HE5.out
            have HY1 := Aside0.mk hy1
            have HY2 := Aside0.mk hy2
            clear hy1 hy2 HE5
            go_upto_region 9 with (fail)
            have HL8 := Aside0.mk (HL.out.step (below_alloc (Below.refl wr.heap.size wr) (.cells #[.slice A0 x5.f0.length c0, .int .i64 x5.f1, .int .i64 x5.f2, .int .i64 x5.f3, .int .i64 x5.f4] 45)))
            have hbk := blk_new wr (.cells #[.slice A0 x5.f0.length c0, .int .i64 x5.f1, .int .i64 x5.f2, .int .i64 x5.f3, .int .i64 x5.f4] 45)
            have g0 := (Lib.cell?_alloc_some (.cells #[.slice A0 x5.f0.length c0, .int .i64 x5.f1, .int .i64 x5.f2, .int .i64 x5.f3, .int .i64 x5.f4] 45) hco)
            generalize wr.alloc (.cells #[.slice A0 x5.f0.length c0, .int .i64 x5.f1, .int .i64 x5.f2, .int .i64 x5.f3, .int .i64 x5.f4] 45) = w8 at HL8 hbk g0 ⊢
            have y0 : w8.cell? ⟨wr.heap.size, 0, none⟩ = some (.slice A0 x5.f0.length c0) := (blk_cell hbk 0).trans rfl
            have y1 : w8.cell? ⟨wr.heap.size, 1, none⟩ = some (.int .i64 x5.f1) := (blk_cell hbk 1).trans rfl
            have y2 : w8.cell? ⟨wr.heap.size, 2, none⟩ = some (.int .i64 x5.f2) := (blk_cell hbk 2).trans rfl
            have y3 : w8.cell? ⟨wr.heap.size, 3, none⟩ = some (.int .i64 x5.f3) := (blk_cell hbk 3).trans rfl
            have y4 : w8.cell? ⟨wr.heap.size, 4, none⟩ = some (.int .i64 x5.f4) := (blk_cell hbk 4).trans rfl
            clear hbk x0 x1 x2 x3 x4 hco
            refine start_ (n := 6) (S := fun w' => w'.cell? ⟨bo, j, none⟩ = some (.slice (some ⟨gg, 0, none⟩) n n) ∧ w'.cell? ⟨wr.heap.size, 0, none⟩ = some (.slice A0 x5.f0.length c0) ∧ w'.cell? ⟨wr.heap.size, 1, none⟩ = some (.int .i64 x5.f1) ∧ w'.cell? ⟨wr.heap.size, 2, none⟩ = some (.int .i64 x5.f2) ∧ w'.cell? ⟨wr.heap.size, 3, none⟩ = some (.int .i64 x5.f3) ∧ w'.cell? ⟨wr.heap.size, 4, none⟩ = some (.int .i64 x5.f4)) (ds := [5]) #[false, false, false, false, false, false] (by kernel_rfl) rfl rfl ⟨g0, y0, y1, y2, y3, y4⟩ (fun hHeld => ?_)
            refine with_tabW flow_live9.tab9 flow_live9.bits9 (fun HT_ HW_ => ?_)
            refine pure_ (i := 0) (N := some 41) (v := ?_) (a' := ?_) #[true, false, false, false, false, false] rfl rfl (any_of HT_.out (by kernel_rfl)) (fun _ _ _ h => h) (Or.inl ⟨by rfl, ?_⟩) ?_ ?_
            rotate_left
            · intro w'
              go_simp
              with_reducible rfl
            rotate_left
            · simp only [Act.put, List.setIfInBounds_toArray, List.set_cons_zero, List.set_cons_succ, i64_w, i32_w]
              rfl
            refine pure_ (i := 1) (N := some 42) (v := ?_) (a' := ?_) #[true, true, false, false, false, false] rfl rfl (any_of HT_.out (by kernel_rfl)) (fun _ _ _ h => h) (Or.inl ⟨by rfl, ?_⟩) ?_ ?_
            rotate_left
            · intro w'
              go_simp
              with_reducible rfl
            rotate_left
            · simp only [Act.put, List.setIfInBounds_toArray, List.set_cons_zero, List.set_cons_succ, i64_w, i32_w]
              rfl
            refine pure_ (i := 2) (N := some 43) (v := ?_) (a' := ?_) #[true, true, true, false, false, false] rfl rfl (any_of HT_.out (by kernel_rfl)) (fun _ _ _ h => h) (Or.inl ⟨by rfl, ?_⟩) ?_ ?_
            rotate_left
            · intro w'
              go_simp
              with_reducible rfl
            rotate_left
            · simp only [Act.put, List.setIfInBounds_toArray, List.set_cons_zero, List.set_cons_succ, i64_w, i32_w]
              rfl
            refine take_ (i := 3) (N := some 44) (v := ?_) (a' := ?_) #[true, true, true, true, false, false] rfl rfl (take_ofW HT_.out HW_.out (by kernel_rfl)) (fun _ _ _ h => h) (Or.inl ⟨by rfl, ?_⟩) hHeld ?_ ?_
            rotate_left
            · rintro w' ⟨s0, s1, s2, s3, s4, s5⟩
              go_simp
              with_reducible rfl
            rotate_left
            · simp only [Act.put, List.setIfInBounds_toArray, List.set_cons_zero, List.set_cons_succ, i64_w, i32_w]
              rfl
            refine take_ (i := 4) (N := some 45) (v := ?_) (a' := ?_) #[true, true, true, true, true, false] rfl rfl (take_ofW HT_.out HW_.out (by kernel_rfl)) (fun _ _ _ h => h) (Or.inl ⟨by rfl, ?_⟩) hHeld ?_ ?_
            rotate_left
            · rintro w' ⟨s0, s1, s2, s3, s4, s5⟩
              go_simp
              with_reducible rfl
            rotate_left
            · simp only [Act.put, List.setIfInBounds_toArray, List.set_cons_zero, List.set_cons_succ, i64_w, i32_w]
              rfl
            refine last_ (i := 5) (N := some 46) #[true, true, true, true, true, true] rfl rfl (one_of HT_.out (by kernel_rfl)) (by decide) (fun K hK => ?_)
            refine goes_ Try.func46 (by kernel_rfl) rfl #[.slice (some ⟨gg, 0, none⟩) n n, .agg #[.slice A0 x5.f0.length c0, .int .i64 x5.f1, .int .i64 x5.f2, .int .i64 x5.f3, .int .i64 x5.f4]] (by rfl) rfl rfl (by simp only [List.map_toArray, List.map_cons, List.map_nil]; rfl) ?_
            with_reducible refine ((HL8.out.step (below_drew (Below.refl _ _))).ended BW.out (by omega) hgg hll HE0.out HEL.out HY1.out).mono ?_
            rintro e w9 ⟨rfl, hL9, hk9⟩
            refine ⟨_, rfl, ?_⟩
            have H9 := Aside0.mk hL9
            clear hL9 hk9
            refine hK.out _ _ ?_
            clear hK K
            refine norm_ (a' := ?_) ?_ ?_
            rotate_left
            · show Act.put _ (some 46) _ = _
              simp only [Act.put, List.setIfInBounds_toArray, List.set_cons_zero, List.set_cons_succ, i64_w, i32_w]
              rfl
            refine done_ (done_of HT_.out (by kernel_rfl)) ?_
            go_wp2
            go_roundg (gk - 1)
            case measure => have := HK2.out; omega
            case rel => exact ⟨j + 1, by go_num, ⟨by have := HK2.out; omega⟩, by omega, ⟨by rw [← flow_take_set O0 (List.replicate n false) l5.length j hjt yj HO2.out.1 HY2.out]; exact H9.out⟩⟩
          · have hje : j = l5.length := by omega
            subst hje
            have HL3 : Aside0 (flow_Lv w wr (.slice Ai l5.length ci) (.slice Ao l5.length co) Gi Go (List.replicate l5.length (List.replicate n false)) O0 n) := ⟨by
              have := HL.out
              rw [Nat.sub_self, List.replicate_zero, List.append_nil, List.take_of_length_le (by rw [HO2.out.1]; exact Nat.le_refl _)] at this
              exact this⟩
            clear HL hjt hj HK2
            go_upto_region 12 with (fail)
            go_loopg [7] k (fun kq v7 w' => ∃ (g : Bool) (I O : List (List Bool)), v7 = .bool g ∧ Aside0 (kq ≤ k) ∧ Aside0 (flow_Lv w w' (.slice Ai l5.length ci) (.slice Ao l5.length co) Gi Go I O n) ∧ Aside0 (if g = true then flow_Live.lp k a0 a1 a2 a3 l4 l5 kq I O = some r else r = (I, O)))
            case atStart => exact ⟨true, _, O0, rfl, ⟨Nat.le_refl _⟩, HL3, ⟨by rw [if_pos rfl]; exact HX.out⟩⟩
            case round =>
              clear HL3 HX HO HO2
              obtain ⟨g, I, O, rfl, HKQ, HL, HG⟩ := hrel
              cases g with
              | false =>
                have HE := Aside0.mk (show r = (I, O) from by have e := HG.out; rw [if_neg (by simp)] at e; exact e)
                go_wp2
                go_ret2
                exact ⟨_, _, Gi, Go, rfl, by rw [HE.out]; exact HL.out.lower BW.out⟩
              | true =>
                cases gk with
                | zero => exact absurd HG.out (by simp [flow_Live.lp])
                | succ k1 =>
                  have HG2 := HG.out
                  rw [if_pos rfl] at HG2
                  simp only [flow_Live.lp] at HG2
                  obtain ⟨y, hy, hz⟩ := Option.bind_eq_some_iff.1 HG2
                  have HY := Aside0.mk hy
                  have HZ := Aside0.mk hz
                  clear HG2 hy hz HG
                  have f5 : wr.cell? ⟨w0.heap.size, 5, none⟩ = some (.slice A5 l5.length c5) := (blk_cell (blk_below BX.out HL.out.below) 5).trans rfl
                  go_upto_region 15 with (fail)
                  clear f5
                  go_loopg [7, 8] l5.length (fun kq v7 v8 w' => ∃ (m : Nat) (x : Int) (g : Bool) (I O : List (List Bool)), v7 = .bool g ∧ v8 = .int .i64 x ∧ Aside0 (x = (m : Int) - 1) ∧ Aside0 (kq = m) ∧ m ≤ l5.length ∧ Aside0 (flow_Lv w w' (.slice Ai l5.length ci) (.slice Ao l5.length co) Gi Go I O n) ∧ Aside0 (flow_Live.rnd k a0 a1 a2 a3 l4 l5 m (I, O, g) = some y))
                  case atStart => exact ⟨l5.length, _, false, I, O, rfl, rfl, ⟨by go_num⟩, ⟨rfl⟩, Nat.le_refl _, HL, HY⟩
                  case round =>
                    clear HL HY
                    obtain ⟨m, x, g, I, O, rfl, rfl, HXM, HKM, hm, HL, HY⟩ := hrel
                    cases m with
                    | zero =>
                      obtain rfl : x = -1 := by have := HXM.out; omega
                      have HY2 := Aside0.mk (Option.some.inj (show some (I, O, g) = some y from HY.out))
                      go_wp2
                      go_roundg k1
                      case measure => have := HKQ.out; omega
                      case rel => exact ⟨g, I, O, rfl, ⟨by have := HKQ.out; omega⟩, HL, ⟨by have e := HZ.out; rw [← HY2.out] at e; cases g <;> simp at e ⊢ <;> first | exact e | exact e.symm⟩⟩
                    | succ m =>
                      obtain rfl : x = (m : Int) := by have := HXM.out; omega
                      obtain ⟨z, hz1, hz2⟩ := Option.bind_eq_some_iff.1 (show (flow_Live.one k a0 a1 a2 a3 l4 l5 m (I, O, g)).bind (fun y => flow_Live.rnd k a0 a1 a2 a3 l4 l5 m y) = some y from HY.out)
                      unfold flow_Live.one at hz1
                      obtain ⟨o, ho, hz1⟩ := Option.bind_eq_some_iff.1 hz1
                      obtain ⟨b, hbj, hz1⟩ := Option.bind_eq_some_iff.1 hz1
                      obtain ⟨lv, hlv, hz1⟩ := Option.bind_eq_some_iff.1 hz1
                      obtain ⟨yj, hyj, hz1⟩ := Option.bind_eq_some_iff.1 hz1
                      have HZ1 := Aside0.mk (Option.some.inj hz1)
                      have HZ2 := Aside0.mk hz2
                      have HO1 := Aside0.mk ho
                      have HBJ := Aside0.mk hbj
                      have HLV := Aside0.mk hlv
                      have HYJ := Aside0.mk hyj
                      clear hz1 hz2 ho hbj hlv hyj HY
                      obtain ⟨gb, hgb⟩ : ∃ gb, Go[m]? = some gb := ⟨_, List.getElem?_eq_getElem (show m < Go.length by omega)⟩
                      obtain ⟨gi, hgim⟩ : ∃ gi, Gi[m]? = some gi := ⟨_, List.getElem?_eq_getElem (show m < Gi.length by omega)⟩
                      have HOm := Aside0.mk (flow_getD [] (show m < O.length by have := HL.out.lo; omega))
                      have HIm := Aside0.mk (flow_getD [] (show m < I.length by have := HL.out.li; omega))
                      have HIlen := Aside0.mk (show I.length = l5.length by have := HL.out.li; omega)
                      obtain ⟨bo, co', eo, _⟩ := flow_cellOf HL.out.oo hgb
                      injection eo with eo en ec; clear en
                      subst eo; subst ec
                      obtain ⟨bi, ci', ei, _⟩ := flow_cellOf HL.out.oi hgim
                      injection ei with ei en ec; clear en
                      subst ei; subst ec
                      have HGB := Aside0.mk hgb
                      have HGI := Aside0.mk hgim
                      have HGil := Aside0.mk hgi
                      have HGol := Aside0.mk hgo
                      have HGLT := Aside0.mk (show gb < wr.heap.size from (HL.out.gi gb (List.mem_append_right _ (List.mem_of_getElem? hgb))).2)
                      clear hgb hgim
                      have f0 : wr.cell? ⟨w0.heap.size, 0, none⟩ = some (.string a0) := (blk_cell (blk_below BX.out HL.out.below) 0).trans rfl
                      have f1 : wr.cell? ⟨w0.heap.size, 1, none⟩ = some (.bool a1) := (blk_cell (blk_below BX.out HL.out.below) 1).trans rfl
                      have f2 : wr.cell? ⟨w0.heap.size, 2, none⟩ = some (.int .i64 a2) := (blk_cell (blk_below BX.out HL.out.below) 2).trans rfl
                      have f3 : wr.cell? ⟨w0.heap.size, 3, none⟩ = some (.int .i64 a3) := (blk_cell (blk_below BX.out HL.out.below) 3).trans rfl
                      have f4 : wr.cell? ⟨w0.heap.size, 4, none⟩ = some (.slice A4 l4.length c4) := (blk_cell (blk_below BX.out HL.out.below) 4).trans rfl
                      have f5 : wr.cell? ⟨w0.heap.size, 5, none⟩ = some (.slice A5 l5.length c5) := (blk_cell (blk_below BX.out HL.out.below) 5).trans rfl
                      go_upto_region 18 with (go_at_call 47; refine (flow_outs.calls k a0 a1 a2 a3 A4 c4 l4 A5 c5 l5 (m : Int) o _ (Kd.C_below HR4.out (below_step BW.out HL.out.below)) HC4.out (Kd.C_below HR5.out (below_step BW.out HL.out.below)) HC5.out HO1.out).mono ?_; rintro e wo ⟨v59, rfl, hR, hb⟩; have HLo := Aside0.mk (HL.out.step hb); obtain ⟨Ax, cx, ex⟩ := Kd.R_slice hR; subst ex; have HRo := Aside0.mk (Kd.R_mono (Kd.R_bound hR) (fun k hk => hk.2.1)); clear hR hb)
                      clear f0 f1 f2 f3 f4 f5 HL
                      generalize wr.heap.size = sz at HGLT HRo
                      go_loopg [61] o.length (fun kq v61 w' => ∃ (q : Nat) (b1 : List Bool), v61 = .int .i64 q ∧ Aside0 (kq + q = o.length) ∧ q ≤ o.length ∧ Aside0 (flow_Lv w w' (.slice (some ⟨bi, 0, none⟩) l5.length ci) (.slice (some ⟨bo, 0, none⟩) l5.length co) Gi Go I (O.set m b1) n) ∧ Aside0 ((o.drop q).foldlM (flow_Live.jf k I) b1 = some b) ∧ Aside0 (Kd.R (Kd.int .i64) 3 w' sz (fun k => sz ≤ k) (.slice Ax o.length cx) o))
                      case atStart => exact ⟨0, O.getD m [], rfl, ⟨rfl⟩, Nat.zero_le _, ⟨by rw [flow_set_self HOm.out]; exact HLo.out⟩, HBJ, HRo⟩
                      case round =>
                        clear HLo HRo HBJ
                        obtain ⟨q, b1, rfl, HKO, hq, HL, HJ, HR⟩ := hrel
                        by_cases hqt : q < o.length
                        · obtain ⟨b2, hj1, hj2⟩ := flow_drop_step hqt HJ.out
                          unfold flow_Live.jf at hj1
                          by_cases hti : 0 ≤ o[q] ∧ o[q] < (I.length : Int)
                          · rw [if_pos hti] at hj1
                            obtain ⟨rj, hrj, erj⟩ := Option.map_eq_some_iff.1 hj1
                            obtain ⟨tn, htn⟩ := Int.eq_ofNat_of_zero_le hti.1
                            have htl : tn < I.length := by omega
                            have htl2 : tn < l5.length := by have := HIlen.out; omega
                            rw [htn, Int.toNat_natCast] at hrj
                            obtain ⟨ga, hga⟩ : ∃ ga, Gi[tn]? = some ga := ⟨_, List.getElem?_eq_getElem (show tn < Gi.length by omega)⟩
                            obtain ⟨gx, cpx, ex, _⟩ := Kd.R_form HR.out (by omega)
                            injection ex with ex _ ec
                            subst ex; subst ec
                            have y0 : wr.cell? ⟨gx, q, none⟩ = some (.int .i64 tn) := by
                              have := Kd.R_celln (enc := Value.int .i64) (h1 := fun _ => rfl) (0 : Int) HR.out (q : Int) (Int.natCast_nonneg _) (by omega)
                              simp only [Int.toNat_natCast] at this
                              rw [this.1]; simp [rdOf, hqt, htn]
                            have g0 := flow_cellAt HL.out.oo HGB.out
                            have g1 := flow_cellAt HL.out.oi hga
                            have HOb := Aside0.mk (show (O.set m b1)[m]? = some b1 by rw [List.getElem?_set_self (List.getElem?_eq_some_iff.1 HOm.out).1])
                            have HRJ := Aside0.mk hrj
                            have HJ2 := Aside0.mk hj2
                            have HGA := Aside0.mk hga
                            have HTL := Aside0.mk htl
                            have HEB := Aside0.mk erj
                            have hol := flow_R_max HR.out
                            have p1 : (0 : Int) ≤ (q : Int) := Int.natCast_nonneg _
                            have p2 : (q : Int) < (o.length : Int) := by omega
                            have p3 : (0 : Int) ≤ (tn : Int) := Int.natCast_nonneg _
                            have p4 : (tn : Int) < (l5.length : Int) := by omega
                            have p5 : (0 : Int) ≤ (m : Int) := Int.natCast_nonneg _
                            have p6 : (m : Int) < (l5.length : Int) := by omega
                            clear hrj hj1 hj2 hga htl htl2 hti htn erj HJ
                            go_upto_region 20 with (fail)
                            refine start_ (n := 9) (S := fun w' => w'.cell? ⟨bo, m, none⟩ = some (.slice (some ⟨gb, 0, none⟩) n n) ∧ w'.cell? ⟨bi, tn, none⟩ = some (.slice (some ⟨ga, 0, none⟩) n n)) (ds := [8]) #[false, false, false, false, false, false, false, false, false] (by kernel_rfl) rfl rfl ⟨g0, g1⟩ (fun hHeld => ?_)
                            refine with_tabW flow_live20.tab20 flow_live20.bits20 (fun HT_ HW_ => ?_)
                            refine pure_ (i := 0) (N := some 65) (v := ?_) (a' := ?_) #[true, false, false, false, false, false, false, false, false] rfl rfl (any_of HT_.out (by kernel_rfl)) (fun _ _ _ h => h) (Or.inl ⟨by rfl, ?_⟩) ?_ ?_
                            rotate_left
                            · intro w'
                              go_simp
                              with_reducible rfl
                            rotate_left
                            · simp only [Act.put, List.setIfInBounds_toArray, List.set_cons_zero, List.set_cons_succ, i64_w, i32_w]
                              rfl
                            refine pure_ (i := 1) (N := some 66) (v := ?_) (a' := ?_) #[true, true, false, false, false, false, false, false, false] rfl rfl (any_of HT_.out (by kernel_rfl)) (fun _ _ _ h => h) (Or.inl ⟨by rfl, ?_⟩) ?_ ?_
                            rotate_left
                            · intro w'
                              go_simp
                              with_reducible rfl
                            rotate_left
                            · simp only [Act.put, List.setIfInBounds_toArray, List.set_cons_zero, List.set_cons_succ, i64_w, i32_w]
                              rfl
                            refine pure_ (i := 2) (N := some 67) (v := ?_) (a' := ?_) #[true, true, true, false, false, false, false, false, false] rfl rfl (any_of HT_.out (by kernel_rfl)) (fun _ _ _ h => h) (Or.inl ⟨by rfl, ?_⟩) ?_ ?_
                            rotate_left
                            · intro w'
                              go_simp
                              with_reducible rfl
                            rotate_left
                            · simp only [Act.put, List.setIfInBounds_toArray, List.set_cons_zero, List.set_cons_succ, i64_w, i32_w]
                              rfl
                            refine pure_ (i := 4) (N := some 69) (v := ?_) (a' := ?_) #[true, true, true, false, true, false, false, false, false] rfl rfl (any_of HT_.out (by kernel_rfl)) (fun _ _ _ h => h) (Or.inl ⟨by rfl, ?_⟩) ?_ ?_
                            rotate_left
                            · intro w'
                              go_simp
                              with_reducible rfl
                            rotate_left
                            · simp only [Act.put, List.setIfInBounds_toArray, List.set_cons_zero, List.set_cons_succ, i64_w, i32_w]
                              rfl
                            refine pure_ (i := 5) (N := some 70) (v := ?_) (a' := ?_) #[true, true, true, false, true, true, false, false, false] rfl rfl (any_of HT_.out (by kernel_rfl)) (fun _ _ _ h => h) (Or.inl ⟨by rfl, ?_⟩) ?_ ?_
                            rotate_left
                            · intro w'
                              go_simp
                              with_reducible rfl
                            rotate_left
                            · simp only [Act.put, List.setIfInBounds_toArray, List.set_cons_zero, List.set_cons_succ, i64_w, i32_w]
                              rfl
                            refine pure_ (i := 6) (N := some 71) (v := ?_) (a' := ?_) #[true, true, true, false, true, true, true, false, false] rfl rfl (any_of HT_.out (by kernel_rfl)) (fun _ _ _ h => h) (Or.inl ⟨by rfl, ?_⟩) ?_ ?_
                            rotate_left
                            · intro w'
                              go_simp
                              with_reducible rfl
                            rotate_left
                            · simp only [Act.put, List.setIfInBounds_toArray, List.set_cons_zero, List.set_cons_succ, i64_w, i32_w]
                              rfl
                            refine take_ (i := 3) (N := some 68) (v := ?_) (a' := ?_) #[true, true, true, true, true, true, true, false, false] rfl rfl (take_ofW HT_.out HW_.out (by kernel_rfl)) (fun _ _ _ h => h) (Or.inl ⟨by rfl, ?_⟩) hHeld ?_ ?_
                            rotate_left
                            · rintro w' ⟨s0, s1⟩
                              go_simp
                              with_reducible rfl
                            rotate_left
                            · simp only [Act.put, List.setIfInBounds_toArray, List.set_cons_zero, List.set_cons_succ, i64_w, i32_w]
                              rfl
                            refine take_ (i := 7) (N := some 72) (v := ?_) (a' := ?_) #[true, true, true, true, true, true, true, true, false] rfl rfl (take_ofW HT_.out HW_.out (by kernel_rfl)) (fun _ _ _ h => h) (Or.inl ⟨by rfl, ?_⟩) hHeld ?_ ?_
                            rotate_left
                            · rintro w' ⟨s0, s1⟩
                              go_simp
                              with_reducible rfl
                            rotate_left
                            · simp only [Act.put, List.setIfInBounds_toArray, List.set_cons_zero, List.set_cons_succ, i64_w, i32_w]
                              rfl
                            refine last_ (i := 8) (N := some 73) #[true, true, true, true, true, true, true, true, true] rfl rfl (one_of HT_.out (by kernel_rfl)) (by decide) (fun K hK => ?_)
                            refine goes_ Try.func48 (by kernel_rfl) rfl #[.slice (some ⟨gb, 0, none⟩) n n, .slice (some ⟨ga, 0, none⟩) n n] (by rfl) rfl rfl (by simp only [List.map_toArray, List.map_cons, List.map_nil]; rfl) ?_
                            with_reducible refine ((HL.out.step (below_drew (Below.refl _ _))).joinOut (k := k) (by omega) HGA.out (flow_getD [] HTL.out) HGB.out HOb.out HRJ.out).mono ?_
                            rintro e w9 ⟨rfl, hL9, hk9⟩
                            refine ⟨_, rfl, ?_⟩
                            rw [List.set_set] at hL9
                            have H9 := Aside0.mk hL9
                            have R9 := Aside0.mk (Kd.R_kept (Kd.R_drew HR.out) hk9 (fun k e1 e2 => by have := HGLT.out; omega))
                            clear hL9 hk9
                            refine hK.out _ _ ?_
                            clear hK K
                            refine norm_ (a' := ?_) ?_ ?_
                            rotate_left
                            · show Act.put _ (some 73) _ = _
                              simp only [Act.put, List.setIfInBounds_toArray, List.set_cons_zero, List.set_cons_succ, i64_w, i32_w]
                              rfl
                            refine done_ (done_of HT_.out (by kernel_rfl)) ?_
                            go_wp2
                            go_roundg (gk - 1)
                            case measure => have := HKO.out; omega
                            case rel => exact ⟨q + 1, rj.2, by go_num, ⟨by have := HKO.out; omega⟩, by omega, H9, ⟨by rw [HEB.out]; exact HJ2.out⟩, R9⟩
                          · rw [if_neg hti] at hj1; cases hj1
                        · obtain rfl : q = o.length := by omega
                          obtain rfl : b1 = b := by have := HJ.out; rw [List.drop_length] at this; exact Option.some.inj this
                          clear HJ HKO hq hqt HR
                          have g0 := flow_cellAt HL.out.oo HGB.out
                          have p5 : (0 : Int) ≤ (m : Int) := Int.natCast_nonneg _
                          have p6 : (m : Int) < (l5.length : Int) := by omega
                          have HOb := Aside0.mk (show (O.set m b1)[m]? = some b1 by rw [List.getElem?_set_self (List.getElem?_eq_some_iff.1 HOm.out).1])
                          have HBr := Aside0.mk (below_step BW.out HL.out.below)
                          obtain ⟨ad, A0, c0, e5, x0, _, _, _, _, hl0, j0⟩ := at_T45 HR5.out (m : Int) p5 p6
                          cases e5
                          rw [Int.toNat_natCast] at x0
                          have hx5 : rd_T45 l5 (m : Int) = l5[m] := by simp [rd_T45, show m < l5.length by omega]
                          have hil : (rd_T45 l5 (m : Int)).f0.length ≤ 4000000000 := by rw [hx5]; exact HIL.out _ (List.getElem_mem _)
                          clear hx5
                          generalize rd_T45 l5 (m : Int) = x5 at *
                          have HX0 := Aside0.mk x0
                          have HJ0 := Aside0.mk j0
                          have HL0 := Aside0.mk hl0
                          clear x0 j0 hl0
                          replace p5 := eq_true p5
                          replace p6 := eq_true p6
                          go_upto_region 25 with (go_at_call 49; refine ((HL.out).clone (by omega) HGB.out HOb.out).mono ?_; rintro e wc ⟨Al, cl, rfl, hLw⟩; have HLW := Aside0.mk hLw; have f5 : wc.cell? ⟨w0.heap.size, 5, none⟩ = some (.slice (some ad) l5.length c5) := (blk_cell (blk_below (blk_below BX.out HL.out.below) hLw.b) 5).trans rfl; have x0 := ((below_step HBr.out hLw.b).cell (World.block_lt_of_cell? w0 _ HX0.out)).trans HX0.out; clear hLw)
                          clear f5 x0 g0
                          go_loopg [13] x5.f0.length (fun kq v13 w' => ∃ (u : Nat) (x : Int) (lb : List Bool), v13 = .int .i64 x ∧ Aside0 (x = (u : Int) - 1) ∧ Aside0 (kq = u) ∧ u ≤ x5.f0.length ∧ Aside0 (flow_Lw w wr w' (.slice (some ⟨bi, 0, none⟩) l5.length ci) (.slice (some ⟨bo, 0, none⟩) l5.length co) Gi Go I (O.set m b1) n (.slice Al b1.length cl) lb) ∧ Aside0 ((x5.f0.take u).reverse.foldlM (flow_Live.bf k) lb = some lv))
                          case atStart => exact ⟨x5.f0.length, _, b1, rfl, ⟨by go_num⟩, ⟨rfl⟩, Nat.le_refl _, HLW, ⟨by rw [List.take_length]; exact HLV.out⟩⟩
                          case round =>
                            clear HLW HLV HL
                            obtain ⟨u, x, lb, rfl, HXU, HKU, hu, HLW, HLV⟩ := hrel
                            cases u with
                            | zero =>
                              obtain rfl : x = -1 := by have := HXU.out; omega
                              obtain rfl : lb = lv := by have := HLV.out; rw [List.take_zero, List.reverse_nil] at this; exact Option.some.inj this
                              have HL := Aside0.mk (HLW.out.lv.step HLW.out.b)
                              have g1 := flow_cellAt HL.out.oi HGI.out
                              have p5 : (0 : Int) ≤ (m : Int) := Int.natCast_nonneg _
                              have p6 : (m : Int) < (l5.length : Int) := by omega
                              obtain ⟨y1, y2⟩ := yj
                              cases y1
                              all_goals (
                                go_wp2_with (go_at_call 48; refine (HLW.out.joinIn (k := k) (by omega) HGI.out HIm.out HYJ.out).mono ?_; rintro e w9 ⟨rfl, hL9⟩; have H9 := Aside0.mk hL9; clear hL9)
                                go_roundg m
                                case measure => have := HKM.out; omega
                                case rel => exact ⟨m, _, _, _, _, rfl, rfl, ⟨by go_num⟩, ⟨rfl⟩, by omega, H9, ⟨by have e := HZ1.out; have e2 := HZ2.out; rw [← e] at e2; first | exact e2 | simpa using e2⟩⟩)
                            | succ u =>
                              obtain rfl : x = (u : Int) := by have := HXU.out; omega
                              have hul : u < x5.f0.length := by omega
                              obtain ⟨c1, hb1, hb2⟩ := flow_rev_step hul HLV.out
                              have p7 : (0 : Int) ≤ (u : Int) := Int.natCast_nonneg _
                              have p8 : (u : Int) < (x5.f0.length : Int) := by omega
                              obtain ⟨ai, A9, c9, e9, x0, x1, x2, x3, x4, x5', x6, x7, x8, x9, x10, hl9, j9⟩ := at_T84 HJ0.out (u : Int) p7 p8
                              cases e9
                              have HBw := Aside0.mk (below_step (below_step BW.out HLW.out.lv.below) HLW.out.b)
                              rw [Int.toNat_natCast] at x0 x1 x2 x3 x4 x5' x6 x7 x8 x9 x10
                              replace x0 := (HBw.out.cell (World.block_lt_of_cell? w0 _ x0)).trans x0
                              replace x1 := (HBw.out.cell (World.block_lt_of_cell? w0 _ x1)).trans x1
                              replace x2 := (HBw.out.cell (World.block_lt_of_cell? w0 _ x2)).trans x2
                              replace x3 := (HBw.out.cell (World.block_lt_of_cell? w0 _ x3)).trans x3
                              replace x4 := (HBw.out.cell (World.block_lt_of_cell? w0 _ x4)).trans x4
                              replace x5' := (HBw.out.cell (World.block_lt_of_cell? w0 _ x5')).trans x5'
                              replace x6 := (HBw.out.cell (World.block_lt_of_cell? w0 _ x6)).trans x6
                              replace x7 := (HBw.out.cell (World.block_lt_of_cell? w0 _ x7)).trans x7
                              replace x8 := (HBw.out.cell (World.block_lt_of_cell? w0 _ x8)).trans x8
                              replace x9 := (HBw.out.cell (World.block_lt_of_cell? w0 _ x9)).trans x9
                              replace x10 := (HBw.out.cell (World.block_lt_of_cell? w0 _ x10)).trans x10
                              have hxe : rd_T84 x5.f0 (u : Int) = x5.f0[u] := by simp [rd_T84, hul]
                              rw [← hxe] at hb1
                              have HB1 := Aside0.mk hb1
                              have HB2 := Aside0.mk hb2
                              have HL9 := Aside0.mk hl9
                              have HJ9 := Aside0.mk j9
                              clear hb1 hb2 hxe hl9 j9 HLV
                              generalize rd_T84 x5.f0 (u : Int) = xi at *
                              replace p7 := eq_true p7
                              replace p8 := eq_true p8
                              go_wp2_with (go_at_call 50; refine (HLW.out.before (k := k) BW.out HJ9.out HL9.out HB1.out).mono ?_; rintro e w9 ⟨rfl, h9⟩; have H9 := Aside0.mk h9; clear h9)
                              go_roundg (gk - 1)
                              case measure => have := HKU.out; omega
                              case rel => exact ⟨u, _, c1, rfl, ⟨by go_num⟩, ⟨by have := HKU.out; omega⟩, by omega, H9, HB2⟩
  · rw [if_neg hb] at h; cases h
end Go.Proofs.Ytppanpboejpmjaa.Tr
