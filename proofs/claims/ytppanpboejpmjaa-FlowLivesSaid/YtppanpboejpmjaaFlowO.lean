/- FlowO: functions of the program walked by hand, and what they come to. -/
import Derived.Test.YtppanpboejpmjaaProg
import Derived.Below
import Derived.Deep.Draws
import Derived.Deep.AppendLies
import Derived.Maps.AppendAt
import Derived.OwnWalk
import Derived.Laws.BytesArg
import Derived.Laws.MakeOwn
import Derived.Laws.OwnMore
import Derived.Deep.OwnRows
import Derived.Tactics
import Derived.Lib.ConvBytes
import Derived.Laws.Slices
import Derived.WalkKit
import Derived.KernelRfl
import Derived.RowKit3
import Derived.Deep.LoopGhost
import Derived.Deep.QuietTactic
import Derived.BigQuiet
import Derived.WideLaws
import Derived.Deep.DeepCutAuto
import Derived.Deep.CutBlock
import Derived.Deep.RegionHeld3
import Derived.Laws.Rows
import Derived.Lib.AppendStr
import Derived.ArgAppend
import Derived.Laws.IdiomCopy
import Derived.OrdersHeld
import Derived.Laws.BitsLemmas
import Derived.RowKit
import Derived.Shelf.SlicesE.DeleteFunc
import Derived.Test.YtppanpboejpmjaaWWords
import Derived.Test.YtppanpboejpmjaaWLast
import Derived.Test.YtppanpboejpmjaaWTab
import Derived.Test.YtppanpboejpmjaaWFour
import Derived.Test.YtppanpboejpmjaaWQPut
import Derived.Test.YtppanpboejpmjaaWApart
import Derived.Test.YtppanpboejpmjaaWArr
import Derived.Test.YtppanpboejpmjaaWZeros
import Derived.Test.YtppanpboejpmjaaWFoot
import Derived.Test.YtppanpboejpmjaaWKept
import Derived.Test.YtppanpboejpmjaaWShare
import Derived.Test.YtppanpboejpmjaaWN
import Derived.Test.YtppanpboejpmjaaWFootNe
import Derived.Test.YtppanpboejpmjaaWAt
import Derived.Test.YtppanpboejpmjaaWEqStruct
import Derived.Test.YtppanpboejpmjaaWRepsOne
import Derived.Test.YtppanpboejpmjaaWInv
import Derived.Test.YtppanpboejpmjaaWInvWords
import Derived.Test.YtppanpboejpmjaaWGuard
import Derived.Test.YtppanpboejpmjaaWNEv
import Derived.Test.YtppanpboejpmjaaWMore
import Derived.Test.YtppanpboejpmjaaTr0
import Derived.Test.YtppanpboejpmjaaFlowN
import Derived.Test.YtppanpboejpmjaaFlowP
import Derived.Test.YtppanpboejpmjaaTr6
import Derived.Test.YtppanpboejpmjaaWTab
import Derived.Outline
set_option linter.all false
namespace Go.Proofs.Ytppanpboejpmjaa.Tr
open Go.RowKit Go.Proofs.YtppanpboejpmjaaW.PrintWords Go.Proofs.YtppanpboejpmjaaW.PrintLast Go.Proofs.YtppanpboejpmjaaW.PrintMore
set_option linter.unusedVariables false
theorem flow_own_slice {w : World} {base e size n : Nat} {v : Value} {xs : List Value} (h : w.ownsRow base e size v n xs) : ∃ A c, v = .slice A n c := by
  obtain ⟨h1, ⟨ev, h2⟩ | ⟨g, cap, cur, ev, h2⟩⟩ := h
  · exact ⟨none, 0, by rw [ev, h2]⟩
  · exact ⟨_, _, ev⟩
def flow_lives9.T9 : Bool × List (List Nat × List Nat) := (true, [([], []), ([], []), ([0, 1], [0, 1]), ([2], [2]), ([3], [3]), ([], []), ([5], [5]), ([6], [6]), ([4, 7], [4, 7]), ([8], [8]), ([9], [9]), ([9], [9]), ([10, 11, 9], [9, 10, 11]), ([12, 9], [9, 12]), ([13, 9], [9, 13]), ([9], [9]), ([15, 9], [9, 15]), ([16, 9], [9, 16]), ([14, 17, 9], [9, 14, 17]), ([9, 18], [9, 18])])
def flow_lives9.B9 : List Nat := [0, 0, 3, 7, 15, 0, 32, 96, 255, 511, 1023, 1023, 4095, 8191, 16383, 1023, 33791, 99327, 262143, 524287]
theorem flow_lives9.tab9 : rtab .any (opsOf Try.f4 9) = flow_lives9.T9 := by kernel_rfl
theorem flow_lives9.bits9 : waitsOk flow_lives9.T9.2 flow_lives9.B9 = true := by kernel_rfl
def flow_lives14.T14 : Bool × List (List Nat × List Nat) := (true, [([], []), ([], []), ([0, 1], [0, 1]), ([2], [2]), ([], []), ([3, 4], [3, 4]), ([5], [5]), ([], []), ([], []), ([], []), ([7, 8, 9], [7, 8, 9]), ([6, 10], [6, 10]), ([11, 10], [11]), ([12], [12]), ([12], [12]), ([13, 14, 12], [12, 13, 14]), ([15, 12], [12, 15]), ([12], [12]), ([16, 17, 12], [12, 16, 17]), ([18, 12], [12, 18]), ([12], [12]), ([12], [12]), ([12], [12]), ([22, 12], [12, 22]), ([12], [12]), ([23, 24, 12], [12, 23, 24]), ([25, 12], [12, 25]), ([26, 12], [12, 26]), ([27, 12], [12, 27]), ([12], [12]), ([20, 21, 28, 29, 12, 12], [12, 20, 21, 28, 29]), ([19, 30, 12], [12, 19, 30]), ([12, 31], [12, 31])])
def flow_lives14.B14 : List Nat := [0, 0, 3, 7, 0, 31, 63, 0, 0, 0, 896, 2047, 4095, 8191, 8191, 32767, 65535, 8191, 262143, 524287, 8191, 8191, 8191, 4202495, 8191, 29368319, 62922751, 130031615, 264249343, 8191, 1072701439, 2147483647, 4294967295]
theorem flow_lives14.tab14 : rtab .any (opsOf Try.f4 14) = flow_lives14.T14 := by kernel_rfl
theorem flow_lives14.bits14 : waitsOk flow_lives14.T14.2 flow_lives14.B14 = true := by kernel_rfl
/-- what the walk of FlowLives asks of a procedure -/
def lives_ok (a0 : ByteArray) (a1 : Bool) (a2 a3 : Int) (l4 : List S76) (l5 : List S45) : Prop := ∃ (k1 k2 n : Nat) (I O : List (List Bool)), max a3 0 = (n : Int) ∧ n ≤ 30 ∧ l5.length ≤ 40 ∧ flow_Live.f k1 a0 a1 a2 a3 l4 l5 = some (I, O) ∧ I.length = l5.length ∧ O.length = l5.length ∧
    (∀ i r : Nat, i < l5.length → r < n → rushlightref16_Live.f k2 a0 a1 a2 a3 l4 l5 (i : Int) 0 (r : Int) = some ((I.getD i []).getD r false)) ∧
    (∀ i r : Nat, i < l5.length → r < n → rushlightref16_Live.f k2 a0 a1 a2 a3 l4 l5 (i : Int) ((rd_T45 l5 (i : Int)).f0.length : Int) (r : Int) = some ((O.getD i []).getD r false))
set_option maxHeartbeats 8000000 in
set_option maxRecDepth 100000 in
theorem flow_FlowLives.walk (a0 : ByteArray) (a1 : Bool) (a2 a3 : Int) (A4 : Option Addr) (c4 : Nat) (l4 : List S76) (A5 : Option Addr) (c5 : Nat) (l5 : List S45) (w0 : World)
    (hr4 : Kd.C k76 w0 A4 l4.length l4) (hc4 : l4.length ≤ c4) (hr5 : Kd.C k45 w0 A5 l5.length l5) (hc5 : l5.length ≤ c5) (hok : a3 ≤ 30 ∧ law_okP l5 → lives_ok a0 a1 a2 a3 l4 l5) :
    Calls Try.prog 4 #[.agg #[.string a0, .bool a1, .int .i64 a2, .int .i64 a3, .slice A4 l4.length c4, .slice A5 l5.length c5]] w0 fun e w' => e = .returned (.bool true) ∧ Below w0.heap.size w0 w' := by
  have hu31 := Try.underlying31
  have hu38 := Try.underlying38
  have hu41 := Try.underlying41
  have hu45 := Try.underlying45
  have hu29 := Try.underlying29
  have BW := Aside0.mk (below_alloc (Below.refl w0.heap.size w0) (.cells #[.string a0, .bool a1, .int .i64 a2, .int .i64 a3, .slice A4 l4.length c4, .slice A5 l5.length c5] 31))
  have BX := Aside0.mk (blk_new w0 (.cells #[.string a0, .bool a1, .int .i64 a2, .int .i64 a3, .slice A4 l4.length c4, .slice A5 l5.length c5] 31))
  have HR4 := Aside0.mk hr4
  have HR5 := Aside0.mk hr5
  have HC4 := Aside0.mk hc4
  have HC5 := Aside0.mk hc5
  have HOK := Aside0.mk hok
  clear hr4 hr5 hc4 hc5 hok
  go_enter Try.func4, Try.ntmps4
  go_upto_region 3 with (go_at_call 16; refine (law16_few.calls a0 a1 a2 a3 A4 c4 l4 A5 c5 l5 _ (Kd.C_below HR4.out BW.out) HC4.out (Kd.C_below HR5.out BW.out) HC5.out).mono ?_; rintro e w1 ⟨bb, rfl, hbb, hb⟩; have HBB := Aside0.mk hbb; have HB1 := Aside0.mk (below_step BW.out hb); have BX1 := Aside0.mk (blk_below BX.out hb); cases bb; clear hbb hb)
  · go_wp2_with (go_at_call 17; refine (flow_awake.calls _).mono ?_; rintro e w2 ⟨rfl, hb⟩; have HB2 := Aside0.mk (below_step HB1.out hb); clear hb)
    go_ret
    exact ⟨rfl, HB2.out⟩
  obtain ⟨k1, k2, n, I, O, h3, hn, hN, hlive, hI, hO, hin, hout⟩ := HOK.out (by first | exact HBB.out rfl | exact HBB.out trivial)
  have HLI := Aside0.mk hlive
  have HIN := Aside0.mk hin
  have HOUT := Aside0.mk hout
  have HIl := Aside0.mk hI
  have HOl := Aside0.mk hO
  have hn3 : Aside0 ((max a3 0).toNat = n) := ⟨by omega⟩
  clear hlive hin hout hI hO
  have f0 : w1.cell? ⟨w0.heap.size, 0, none⟩ = some (.string a0) := (blk_cell BX1.out 0).trans rfl
  have f1 : w1.cell? ⟨w0.heap.size, 1, none⟩ = some (.bool a1) := (blk_cell BX1.out 1).trans rfl
  have f2 : w1.cell? ⟨w0.heap.size, 2, none⟩ = some (.int .i64 a2) := (blk_cell BX1.out 2).trans rfl
  have f3 : w1.cell? ⟨w0.heap.size, 3, none⟩ = some (.int .i64 a3) := (blk_cell BX1.out 3).trans rfl
  have f4 : w1.cell? ⟨w0.heap.size, 4, none⟩ = some (.slice A4 l4.length c4) := (blk_cell BX1.out 4).trans rfl
  have f5 : w1.cell? ⟨w0.heap.size, 5, none⟩ = some (.slice A5 l5.length c5) := (blk_cell BX1.out 5).trans rfl
  go_upto_region 4 with (go_at_call 18; refine (flow_Live.calls k1 a0 a1 a2 a3 A4 c4 l4 A5 c5 l5 (I, O) _ (Kd.C_below HR4.out HB1.out) HC4.out (Kd.C_below HR5.out HB1.out) HC5.out HLI.out).mono ?_; rintro e w2 ⟨vi, vo, Gi, Go, rfl, hL⟩; rw [hn3.out] at hL; have HL := Aside0.mk hL; clear hL)
  clear f0 f1 f2 f3 f4 f5
  obtain ⟨Ai, ci, ei⟩ := flow_own_slice HL.out.oi
  obtain ⟨Ao, co, eo⟩ := flow_own_slice HL.out.oo
  have lgi : Aside0 (Gi.length = l5.length) := ⟨HL.out.li.trans HIl.out⟩
  have lgo : Aside0 (Go.length = l5.length) := ⟨HL.out.lo.trans HOl.out⟩
  rw [lgi.out] at ei
  rw [lgo.out] at eo
  subst ei; subst eo
  have f5 : w2.cell? ⟨w0.heap.size, 5, none⟩ = some (.slice A5 l5.length c5) := (blk_cell (blk_below BX1.out HL.out.below) 5).trans rfl
  go_upto_region 7 with (fail)
  clear f5
  go_loopg [5] l5.length (fun kq v5 w' => ∃ i : Nat, v5 = .int .i64 i ∧ Aside0 (kq + i = l5.length) ∧ i ≤ l5.length ∧ Aside0 (flow_Lv w1 w' (.slice Ai l5.length ci) (.slice Ao l5.length co) Gi Go I O n))
  case atStart => exact ⟨0, rfl, ⟨rfl⟩, Nat.zero_le _, HL⟩
  case round =>
    clear HL
    obtain ⟨i, rfl, HK, hi, HL⟩ := hrel
    by_cases hit : i < l5.length
    · obtain ⟨gi, hgi⟩ : ∃ gi, Gi[i]? = some gi := ⟨_, List.getElem?_eq_getElem (show i < Gi.length by have := lgi.out; omega)⟩
      obtain ⟨go, hgo⟩ : ∃ go, Go[i]? = some go := ⟨_, List.getElem?_eq_getElem (show i < Go.length by have := lgo.out; omega)⟩
      obtain ⟨bi, ci', ei, _⟩ := flow_cellOf HL.out.oi hgi
      injection ei with ei en ec; clear en
      subst ei; subst ec
      obtain ⟨bo, co', eo, _⟩ := flow_cellOf HL.out.oo hgo
      injection eo with eo en ec; clear en
      subst eo; subst ec
      have HGI := Aside0.mk hgi
      have HGO := Aside0.mk hgo
      clear hgi hgo
      have g0 := flow_cellAt HL.out.oi HGI.out
      have g1 := flow_cellAt HL.out.oo HGO.out
      have g2 : wr.cell? ⟨w0.heap.size, 3, none⟩ = some (.int .i64 a3) := (blk_cell (blk_below BX1.out HL.out.below) 3).trans rfl
      have p1 : (0 : Int) ≤ (i : Int) := Int.natCast_nonneg _
      have p2 : (i : Int) < (l5.length : Int) := by omega
      go_upto_region 9 with (fail)
      refine start_ (n := 20) (S := fun w' => w'.cell? ⟨bi, i, none⟩ = some (.slice (some ⟨gi, 0, none⟩) n n) ∧ w'.cell? ⟨bo, i, none⟩ = some (.slice (some ⟨go, 0, none⟩) n n) ∧ w'.cell? ⟨w0.heap.size, 3, none⟩ = some (.int .i64 a3)) (ds := []) #[false, false, false, false, false, false, false, false, false, false, false, false, false, false, false, false, false, false, false, false] (by kernel_rfl) rfl rfl ⟨g0, g1, g2⟩ (fun hHeld => ?_)
      refine with_tabW flow_lives9.tab9 flow_lives9.bits9 (fun HT_ HW_ => ?_)
      refine pure_ (i := 0) (N := some 36) (v := ?_) (a' := ?_) #[true, false, false, false, false, false, false, false, false, false, false, false, false, false, false, false, false, false, false, false] rfl rfl (any_of HT_.out (by kernel_rfl)) (fun _ _ _ h => h) (Or.inl ⟨by rfl, ?_⟩) ?_ ?_
      rotate_left
      · intro w'
        go_simp
        with_reducible rfl
      rotate_left
      · simp only [Act.put, List.setIfInBounds_toArray, List.set_cons_zero, List.set_cons_succ, i64_w, i32_w]
        rfl
      refine pure_ (i := 1) (N := some 37) (v := ?_) (a' := ?_) #[true, true, false, false, false, false, false, false, false, false, false, false, false, false, false, false, false, false, false, false] rfl rfl (any_of HT_.out (by kernel_rfl)) (fun _ _ _ h => h) (Or.inl ⟨by rfl, ?_⟩) ?_ ?_
      rotate_left
      · intro w'
        go_simp
        with_reducible rfl
      rotate_left
      · simp only [Act.put, List.setIfInBounds_toArray, List.set_cons_zero, List.set_cons_succ, i64_w, i32_w]
        rfl
      refine pure_ (i := 2) (N := some 38) (v := ?_) (a' := ?_) #[true, true, true, false, false, false, false, false, false, false, false, false, false, false, false, false, false, false, false, false] rfl rfl (any_of HT_.out (by kernel_rfl)) (fun _ _ _ h => h) (Or.inl ⟨by rfl, ?_⟩) ?_ ?_
      rotate_left
      · intro w'
        go_simp
        with_reducible rfl
      rotate_left
      · simp only [Act.put, List.setIfInBounds_toArray, List.set_cons_zero, List.set_cons_succ, i64_w, i32_w]
        rfl
      refine pure_ (i := 5) (N := some 41) (v := ?_) (a' := ?_) #[true, true, true, false, false, true, false, false, false, false, false, false, false, false, false, false, false, false, false, false] rfl rfl (any_of HT_.out (by kernel_rfl)) (fun _ _ _ h => h) (Or.inl ⟨by rfl, ?_⟩) ?_ ?_
      rotate_left
      · intro w'
        go_simp
        with_reducible rfl
      rotate_left
      · simp only [Act.put, List.setIfInBounds_toArray, List.set_cons_zero, List.set_cons_succ, i64_w, i32_w]
        rfl
      refine take_ (i := 3) (N := some 39) (v := ?_) (a' := ?_) #[true, true, true, true, false, true, false, false, false, false, false, false, false, false, false, false, false, false, false, false] rfl rfl (take_ofW HT_.out HW_.out (by kernel_rfl)) (fun _ _ _ h => h) (Or.inl ⟨by rfl, ?_⟩) hHeld ?_ ?_
      rotate_left
      · rintro w' ⟨s0, s1, s2⟩
        go_simp
        with_reducible rfl
      rotate_left
      · simp only [Act.put, List.setIfInBounds_toArray, List.set_cons_zero, List.set_cons_succ, i64_w, i32_w]
        rfl
      refine pure_ (i := 4) (N := some 40) (v := ?_) (a' := ?_) #[true, true, true, true, true, true, false, false, false, false, false, false, false, false, false, false, false, false, false, false] rfl rfl (any_of HT_.out (by kernel_rfl)) (fun _ _ _ h => h) (Or.inl ⟨by rfl, ?_⟩) ?_ ?_
      rotate_left
      · intro w'
        go_simp
        with_reducible rfl
      rotate_left
      · simp only [Act.put, List.setIfInBounds_toArray, List.set_cons_zero, List.set_cons_succ, i64_w, i32_w]
        rfl
      refine take_ (i := 6) (N := some 42) (v := ?_) (a' := ?_) #[true, true, true, true, true, true, true, false, false, false, false, false, false, false, false, false, false, false, false, false] rfl rfl (take_ofW HT_.out HW_.out (by kernel_rfl)) (fun _ _ _ h => h) (Or.inl ⟨by rfl, ?_⟩) hHeld ?_ ?_
      rotate_left
      · rintro w' ⟨s0, s1, s2⟩
        go_simp
        with_reducible rfl
      rotate_left
      · simp only [Act.put, List.setIfInBounds_toArray, List.set_cons_zero, List.set_cons_succ, i64_w, i32_w]
        rfl
      refine pure_ (i := 7) (N := some 43) (v := ?_) (a' := ?_) #[true, true, true, true, true, true, true, true, false, false, false, false, false, false, false, false, false, false, false, false] rfl rfl (any_of HT_.out (by kernel_rfl)) (fun _ _ _ h => h) (Or.inl ⟨by rfl, ?_⟩) ?_ ?_
      rotate_left
      · intro w'
        go_simp
        with_reducible rfl
      rotate_left
      · simp only [Act.put, List.setIfInBounds_toArray, List.set_cons_zero, List.set_cons_succ, i64_w, i32_w]
        rfl
      refine pure_ (i := 8) (N := some 44) (v := ?_) (a' := ?_) #[true, true, true, true, true, true, true, true, true, false, false, false, false, false, false, false, false, false, false, false] rfl rfl (any_of HT_.out (by kernel_rfl)) (fun _ _ _ h => h) (Or.inl ⟨by rfl, ?_⟩) ?_ ?_
      rotate_left
      · intro w'
        go_simp
        with_reducible rfl
      rotate_left
      · simp only [Act.put, List.setIfInBounds_toArray, List.set_cons_zero, List.set_cons_succ, i64_w, i32_w]
        rfl
      refine pure_ (i := 9) (N := some 45) (v := ?_) (a' := ?_) #[true, true, true, true, true, true, true, true, true, true, false, false, false, false, false, false, false, false, false, false] rfl rfl (any_of HT_.out (by kernel_rfl)) (fun _ _ _ h => h) (Or.inl ⟨by rfl, ?_⟩) ?_ ?_
      rotate_left
      · intro w'
        go_simp
        with_reducible rfl
      rotate_left
      · simp only [Act.put, List.setIfInBounds_toArray, List.set_cons_zero, List.set_cons_succ, i64_w, i32_w]
        rfl
      refine pure_ (i := 10) (N := some 46) (v := ?_) (a' := ?_) #[true, true, true, true, true, true, true, true, true, true, true, false, false, false, false, false, false, false, false, false] rfl rfl (any_of HT_.out (by kernel_rfl)) (fun _ _ _ h => h) (Or.inl ⟨by rfl, ?_⟩) ?_ ?_
      rotate_left
      · intro w'
        go_simp
        with_reducible rfl
      rotate_left
      · simp only [Act.put, List.setIfInBounds_toArray, List.set_cons_zero, List.set_cons_succ, i64_w, i32_w]
        rfl
      refine pure_ (i := 11) (N := some 47) (v := ?_) (a' := ?_) #[true, true, true, true, true, true, true, true, true, true, true, true, false, false, false, false, false, false, false, false] rfl rfl (any_of HT_.out (by kernel_rfl)) (fun _ _ _ h => h) (Or.inl ⟨by rfl, ?_⟩) ?_ ?_
      rotate_left
      · intro w'
        go_simp
        with_reducible rfl
      rotate_left
      · simp only [Act.put, List.setIfInBounds_toArray, List.set_cons_zero, List.set_cons_succ, i64_w, i32_w]
        rfl
      refine pure_ (i := 12) (N := some 48) (v := ?_) (a' := ?_) #[true, true, true, true, true, true, true, true, true, true, true, true, true, false, false, false, false, false, false, false] rfl rfl (any_of HT_.out (by kernel_rfl)) (fun _ _ _ h => h) (Or.inl ⟨by rfl, ?_⟩) ?_ ?_
      rotate_left
      · intro w'
        go_simp
        with_reducible rfl
      rotate_left
      · simp only [Act.put, List.setIfInBounds_toArray, List.set_cons_zero, List.set_cons_succ, i64_w, i32_w]
        rfl
      refine pure_ (i := 15) (N := some 51) (v := ?_) (a' := ?_) #[true, true, true, true, true, true, true, true, true, true, true, true, true, false, false, true, false, false, false, false] rfl rfl (any_of HT_.out (by kernel_rfl)) (fun _ _ _ h => h) (Or.inl ⟨by rfl, ?_⟩) ?_ ?_
      rotate_left
      · intro w'
        go_simp
        with_reducible rfl
      rotate_left
      · simp only [Act.put, List.setIfInBounds_toArray, List.set_cons_zero, List.set_cons_succ, i64_w, i32_w]
        rfl
      refine take_ (i := 13) (N := some 49) (v := ?_) (a' := ?_) #[true, true, true, true, true, true, true, true, true, true, true, true, true, true, false, true, false, false, false, false] rfl rfl (take_ofW HT_.out HW_.out (by kernel_rfl)) (fun _ _ _ h => h) (Or.inl ⟨by rfl, ?_⟩) hHeld ?_ ?_
      rotate_left
      · rintro w' ⟨s0, s1, s2⟩
        go_simp
        with_reducible rfl
      rotate_left
      · simp only [Act.put, List.setIfInBounds_toArray, List.set_cons_zero, List.set_cons_succ, i64_w, i32_w]
        rfl
      refine pure_ (i := 14) (N := some 50) (v := ?_) (a' := ?_) #[true, true, true, true, true, true, true, true, true, true, true, true, true, true, true, true, false, false, false, false] rfl rfl (any_of HT_.out (by kernel_rfl)) (fun _ _ _ h => h) (Or.inl ⟨by rfl, ?_⟩) ?_ ?_
      rotate_left
      · intro w'
        go_simp
        with_reducible rfl
      rotate_left
      · simp only [Act.put, List.setIfInBounds_toArray, List.set_cons_zero, List.set_cons_succ, i64_w, i32_w]
        rfl
      refine take_ (i := 16) (N := some 52) (v := ?_) (a' := ?_) #[true, true, true, true, true, true, true, true, true, true, true, true, true, true, true, true, true, false, false, false] rfl rfl (take_ofW HT_.out HW_.out (by kernel_rfl)) (fun _ _ _ h => h) (Or.inl ⟨by rfl, ?_⟩) hHeld ?_ ?_
      rotate_left
      · rintro w' ⟨s0, s1, s2⟩
        go_simp
        with_reducible rfl
      rotate_left
      · simp only [Act.put, List.setIfInBounds_toArray, List.set_cons_zero, List.set_cons_succ, i64_w, i32_w]
        rfl
      refine pure_ (i := 17) (N := some 53) (v := ?_) (a' := ?_) #[true, true, true, true, true, true, true, true, true, true, true, true, true, true, true, true, true, true, false, false] rfl rfl (any_of HT_.out (by kernel_rfl)) (fun _ _ _ h => h) (Or.inl ⟨by rfl, ?_⟩) ?_ ?_
      rotate_left
      · intro w'
        go_simp
        with_reducible rfl
      rotate_left
      · simp only [Act.put, List.setIfInBounds_toArray, List.set_cons_zero, List.set_cons_succ, i64_w, i32_w]
        rfl
      refine pure_ (i := 18) (N := some 54) (v := ?_) (a' := ?_) #[true, true, true, true, true, true, true, true, true, true, true, true, true, true, true, true, true, true, true, false] rfl rfl (any_of HT_.out (by kernel_rfl)) (fun _ _ _ h => h) (Or.inl ⟨by rfl, ?_⟩) ?_ ?_
      rotate_left
      · intro w'
        go_simp
        with_reducible rfl
      rotate_left
      · simp only [Act.put, List.setIfInBounds_toArray, List.set_cons_zero, List.set_cons_succ, i64_w, i32_w]
        rfl
      refine pure_ (i := 19) (N := some 55) (v := ?_) (a' := ?_) #[true, true, true, true, true, true, true, true, true, true, true, true, true, true, true, true, true, true, true, true] rfl rfl (any_of HT_.out (by kernel_rfl)) (fun _ _ _ h => h) (Or.inl ⟨by rfl, ?_⟩) ?_ ?_
      rotate_left
      · intro w'
        go_simp
        with_reducible rfl
      rotate_left
      · simp only [Act.put, List.setIfInBounds_toArray, List.set_cons_zero, List.set_cons_succ, i64_w, i32_w]
        rfl
      refine done_ (done_of HT_.out (by kernel_rfl)) ?_
      go_upto_region 12 with (fail)
      clear g0 g1 g2
      go_loopg [6] n (fun kq v6 w' => ∃ r : Nat, v6 = .int .i64 r ∧ Aside0 (kq + r = n) ∧ r ≤ n ∧ Aside0 (flow_Lv w1 w' (.slice (some ⟨bi, 0, none⟩) l5.length ci) (.slice (some ⟨bo, 0, none⟩) l5.length co) Gi Go I O n))
      case atStart => exact ⟨0, rfl, ⟨rfl⟩, Nat.zero_le _, ⟨HL.out.step (below_drew (Below.refl _ _))⟩⟩
      case round =>
        clear HL
        obtain ⟨r, rfl, HKr, hr, HL⟩ := hrel
        have g0 := flow_cellAt HL.out.oi HGI.out
        by_cases hrt : r < n
        · have HRI := Aside0.mk (HL.out.ri i gi _ HGI.out (flow_getD [] (show i < I.length by have := HIl.out; omega)))
          have HRO := Aside0.mk (HL.out.ro i go _ HGO.out (flow_getD [] (show i < O.length by have := HOl.out; omega)))
          have HBr := Aside0.mk (below_step HB1.out HL.out.below)
          have hx1 := HIN.out i r hit hrt
          have hx2 := HOUT.out i r hit hrt
          have p1 : (0 : Int) ≤ (i : Int) := Int.natCast_nonneg _
          have p2 : (i : Int) < (l5.length : Int) := by omega
          have p3 : (0 : Int) ≤ (r : Int) := Int.natCast_nonneg _
          have p4 : (r : Int) < (n : Int) := by omega
          obtain ⟨ad, A0, c0, e5, g4, _, _, _, _, _, _⟩ := at_T45 HR5.out (i : Int) p1 p2
          cases e5
          rw [Int.toNat_natCast] at g4
          replace g4 := (HBr.out.cell (World.block_lt_of_cell? w0 _ g4)).trans g4
          generalize (rd_T45 l5 (i : Int)).f0.length = nl at g4 hx2
          have g1 : wr.cell? ⟨gi, r, none⟩ = some (.bool ((I.getD i []).getD r false)) := by
            rw [blk_cell HRI.out.2]
            have hl : r < (I.getD i []).length := by rw [HRI.out.1]; exact hrt
            simp [bools, List.getD_eq_getElem?_getD, List.getElem?_eq_getElem hl] at hl ⊢
            simp [hl]
          have g2 := flow_cellAt HL.out.oo HGO.out
          have g3 : wr.cell? ⟨go, r, none⟩ = some (.bool ((O.getD i []).getD r false)) := by
            rw [blk_cell HRO.out.2]
            have hl : r < (O.getD i []).length := by rw [HRO.out.1]; exact hrt
            simp [bools, List.getD_eq_getElem?_getD, List.getElem?_eq_getElem hl] at hl ⊢
            simp [hl]
          generalize (I.getD i []).getD r false = x1 at g1 hx1
          generalize (O.getD i []).getD r false = x2 at g3 hx2
          have HX1 := Aside0.mk hx1
          have HX2 := Aside0.mk hx2
          have hbb := blk_below BX1.out HL.out.below
          have g5 : wr.cell? ⟨w0.heap.size, 0, none⟩ = some (.string a0) := (blk_cell hbb 0).trans rfl
          have g6 : wr.cell? ⟨w0.heap.size, 1, none⟩ = some (.bool a1) := (blk_cell hbb 1).trans rfl
          have g7 : wr.cell? ⟨w0.heap.size, 2, none⟩ = some (.int .i64 a2) := (blk_cell hbb 2).trans rfl
          have g8 : wr.cell? ⟨w0.heap.size, 3, none⟩ = some (.int .i64 a3) := (blk_cell hbb 3).trans rfl
          have g9 : wr.cell? ⟨w0.heap.size, 4, none⟩ = some (.slice A4 l4.length c4) := (blk_cell hbb 4).trans rfl
          have g10 : wr.cell? ⟨w0.heap.size, 5, none⟩ = some (.slice (some ad) l5.length c5) := (blk_cell hbb 5).trans rfl
          clear hx1 hx2 hbb
          go_upto_region 14 with (fail)
          refine start_ (n := 33) (S := fun w' => w'.cell? ⟨bi, i, none⟩ = some (.slice (some ⟨gi, 0, none⟩) n n) ∧ w'.cell? ⟨gi, r, none⟩ = some (.bool x1) ∧ w'.cell? ⟨bo, i, none⟩ = some (.slice (some ⟨go, 0, none⟩) n n) ∧ w'.cell? ⟨go, r, none⟩ = some (.bool x2) ∧ w'.cell? (ad.add (i * 5)) = some (.slice A0 nl c0) ∧ w'.cell? ⟨w0.heap.size, 0, none⟩ = some (.string a0) ∧ w'.cell? ⟨w0.heap.size, 1, none⟩ = some (.bool a1) ∧ w'.cell? ⟨w0.heap.size, 2, none⟩ = some (.int .i64 a2) ∧ w'.cell? ⟨w0.heap.size, 3, none⟩ = some (.int .i64 a3) ∧ w'.cell? ⟨w0.heap.size, 4, none⟩ = some (.slice A4 l4.length c4) ∧ w'.cell? ⟨w0.heap.size, 5, none⟩ = some (.slice (some ad) l5.length c5)) (ds := []) #[false, false, false, false, false, false, false, false, false, false, false, false, false, false, false, false, false, false, false, false, false, false, false, false, false, false, false, false, false, false, false, false, false] (by kernel_rfl) rfl rfl ⟨g0, g1, g2, g3, g4, g5, g6, g7, g8, g9, g10⟩ (fun hHeld => ?_)
          refine with_tabW flow_lives14.tab14 flow_lives14.bits14 (fun HT_ HW_ => ?_)
          refine pure_ (i := 0) (N := some 65) (v := ?_) (a' := ?_) #[true, false, false, false, false, false, false, false, false, false, false, false, false, false, false, false, false, false, false, false, false, false, false, false, false, false, false, false, false, false, false, false, false] rfl rfl (any_of HT_.out (by kernel_rfl)) (fun _ _ _ h => h) (Or.inl ⟨by rfl, ?_⟩) ?_ ?_
          rotate_left
          · intro w'
            go_simp
            with_reducible rfl
          rotate_left
          · simp only [Act.put, List.setIfInBounds_toArray, List.set_cons_zero, List.set_cons_succ, i64_w, i32_w]
            rfl
          refine pure_ (i := 1) (N := some 66) (v := ?_) (a' := ?_) #[true, true, false, false, false, false, false, false, false, false, false, false, false, false, false, false, false, false, false, false, false, false, false, false, false, false, false, false, false, false, false, false, false] rfl rfl (any_of HT_.out (by kernel_rfl)) (fun _ _ _ h => h) (Or.inl ⟨by rfl, ?_⟩) ?_ ?_
          rotate_left
          · intro w'
            go_simp
            with_reducible rfl
          rotate_left
          · simp only [Act.put, List.setIfInBounds_toArray, List.set_cons_zero, List.set_cons_succ, i64_w, i32_w]
            rfl
          refine pure_ (i := 2) (N := some 67) (v := ?_) (a' := ?_) #[true, true, true, false, false, false, false, false, false, false, false, false, false, false, false, false, false, false, false, false, false, false, false, false, false, false, false, false, false, false, false, false, false] rfl rfl (any_of HT_.out (by kernel_rfl)) (fun _ _ _ h => h) (Or.inl ⟨by rfl, ?_⟩) ?_ ?_
          rotate_left
          · intro w'
            go_simp
            with_reducible rfl
          rotate_left
          · simp only [Act.put, List.setIfInBounds_toArray, List.set_cons_zero, List.set_cons_succ, i64_w, i32_w]
            rfl
          refine pure_ (i := 4) (N := some 69) (v := ?_) (a' := ?_) #[true, true, true, false, true, false, false, false, false, false, false, false, false, false, false, false, false, false, false, false, false, false, false, false, false, false, false, false, false, false, false, false, false] rfl rfl (any_of HT_.out (by kernel_rfl)) (fun _ _ _ h => h) (Or.inl ⟨by rfl, ?_⟩) ?_ ?_
          rotate_left
          · intro w'
            go_simp
            with_reducible rfl
          rotate_left
          · simp only [Act.put, List.setIfInBounds_toArray, List.set_cons_zero, List.set_cons_succ, i64_w, i32_w]
            rfl
          refine pure_ (i := 8) (N := some 73) (v := ?_) (a' := ?_) #[true, true, true, false, true, false, false, false, true, false, false, false, false, false, false, false, false, false, false, false, false, false, false, false, false, false, false, false, false, false, false, false, false] rfl rfl (any_of HT_.out (by kernel_rfl)) (fun _ _ _ h => h) (Or.inl ⟨by rfl, ?_⟩) ?_ ?_
          rotate_left
          · intro w'
            go_simp
            with_reducible rfl
          rotate_left
          · simp only [Act.put, List.setIfInBounds_toArray, List.set_cons_zero, List.set_cons_succ, i64_w, i32_w]
            rfl
          refine pure_ (i := 9) (N := some 74) (v := ?_) (a' := ?_) #[true, true, true, false, true, false, false, false, true, true, false, false, false, false, false, false, false, false, false, false, false, false, false, false, false, false, false, false, false, false, false, false, false] rfl rfl (any_of HT_.out (by kernel_rfl)) (fun _ _ _ h => h) (Or.inl ⟨by rfl, ?_⟩) ?_ ?_
          rotate_left
          · intro w'
            go_simp
            with_reducible rfl
          rotate_left
          · simp only [Act.put, List.setIfInBounds_toArray, List.set_cons_zero, List.set_cons_succ, i64_w, i32_w]
            rfl
          refine take_ (i := 3) (N := some 68) (v := ?_) (a' := ?_) #[true, true, true, true, true, false, false, false, true, true, false, false, false, false, false, false, false, false, false, false, false, false, false, false, false, false, false, false, false, false, false, false, false] rfl rfl (take_ofW HT_.out HW_.out (by kernel_rfl)) (fun _ _ _ h => h) (Or.inl ⟨by rfl, ?_⟩) hHeld ?_ ?_
          rotate_left
          · rintro w' ⟨s0, s1, s2, s3, s4, s5, s6, s7, s8, s9, s10⟩
            go_simp
            with_reducible rfl
          rotate_left
          · simp only [Act.put, List.setIfInBounds_toArray, List.set_cons_zero, List.set_cons_succ, i64_w, i32_w]
            rfl
          refine pure_ (i := 5) (N := some 70) (v := ?_) (a' := ?_) #[true, true, true, true, true, true, false, false, true, true, false, false, false, false, false, false, false, false, false, false, false, false, false, false, false, false, false, false, false, false, false, false, false] rfl rfl (any_of HT_.out (by kernel_rfl)) (fun _ _ _ h => h) (Or.inl ⟨by rfl, ?_⟩) ?_ ?_
          rotate_left
          · intro w'
            go_simp
            with_reducible rfl
          rotate_left
          · simp only [Act.put, List.setIfInBounds_toArray, List.set_cons_zero, List.set_cons_succ, i64_w, i32_w]
            rfl
          refine take_ (i := 6) (N := some 71) (v := ?_) (a' := ?_) #[true, true, true, true, true, true, true, false, true, true, false, false, false, false, false, false, false, false, false, false, false, false, false, false, false, false, false, false, false, false, false, false, false] rfl rfl (take_ofW HT_.out HW_.out (by kernel_rfl)) (fun _ _ _ h => h) (Or.inl ⟨by rfl, ?_⟩) hHeld ?_ ?_
          rotate_left
          · rintro w' ⟨s0, s1, s2, s3, s4, s5, s6, s7, s8, s9, s10⟩
            go_simp
            with_reducible rfl
          rotate_left
          · simp only [Act.put, List.setIfInBounds_toArray, List.set_cons_zero, List.set_cons_succ, i64_w, i32_w]
            rfl
          refine take_ (i := 7) (N := some 72) (v := ?_) (a' := ?_) #[true, true, true, true, true, true, true, true, true, true, false, false, false, false, false, false, false, false, false, false, false, false, false, false, false, false, false, false, false, false, false, false, false] rfl rfl (take_ofW HT_.out HW_.out (by kernel_rfl)) (fun _ _ _ h => h) (Or.inl ⟨by rfl, ?_⟩) hHeld ?_ ?_
          rotate_left
          · rintro w' ⟨s0, s1, s2, s3, s4, s5, s6, s7, s8, s9, s10⟩
            go_simp
            with_reducible rfl
          rotate_left
          · simp only [Act.put, List.setIfInBounds_toArray, List.set_cons_zero, List.set_cons_succ, i64_w, i32_w]
            rfl
          refine one_ (i := 10) (N := some 75) #[true, true, true, true, true, true, true, true, true, true, true, false, false, false, false, false, false, false, false, false, false, false, false, false, false, false, false, false, false, false, false, false, false] rfl rfl (one_of HT_.out (by kernel_rfl)) (by decide) (fun K hK => ?_)
          refine goes_ Try.func19 (by kernel_rfl) rfl #[.agg #[.string a0, .bool a1, .int .i64 a2, .int .i64 a3, .slice A4 l4.length c4, .slice (some ad) l5.length c5], .int .i64 i, .int .i64 0, .int .i64 r] (by rfl) rfl rfl (by simp only [List.map_toArray, List.map_cons, List.map_nil]; rfl) ?_
          with_reducible refine (rushlightref16_Live.calls k2 a0 a1 a2 a3 A4 c4 l4 (some ad) c5 l5 (i : Int) 0 (r : Int) x1 _ (Kd.C_below HR4.out (below_step HBr.out (below_drew (Below.refl _ _)))) HC4.out (Kd.C_below HR5.out (below_step HBr.out (below_drew (Below.refl _ _)))) HC5.out HX1.out).mono ?_
          rintro e w5 ⟨rfl, hb⟩
          refine ⟨_, rfl, ?_⟩
          have Hw5 := Aside0.mk (below_step (below_drew (Below.refl wr.heap.size wr)) hb)
          obtain ⟨z0, z1, z2, z3, z4, z5, z6, z7, z8, z9, z10⟩ := hHeld
          refine hK.out _ _ ⟨(hb.cell (World.block_lt_of_cell? _ _ z0)).trans z0, (hb.cell (World.block_lt_of_cell? _ _ z1)).trans z1, (hb.cell (World.block_lt_of_cell? _ _ z2)).trans z2, (hb.cell (World.block_lt_of_cell? _ _ z3)).trans z3, (hb.cell (World.block_lt_of_cell? _ _ z4)).trans z4, (hb.cell (World.block_lt_of_cell? _ _ z5)).trans z5, (hb.cell (World.block_lt_of_cell? _ _ z6)).trans z6, (hb.cell (World.block_lt_of_cell? _ _ z7)).trans z7, (hb.cell (World.block_lt_of_cell? _ _ z8)).trans z8, (hb.cell (World.block_lt_of_cell? _ _ z9)).trans z9, (hb.cell (World.block_lt_of_cell? _ _ z10)).trans z10⟩ (fun hHeld => ?_)
          clear hK K
          refine norm_ (a' := ?_) ?_ ?_
          rotate_left
          · show Act.put _ (some 75) _ = _
            simp only [Act.put, List.setIfInBounds_toArray, List.set_cons_zero, List.set_cons_succ, i64_w, i32_w]
            rfl
          refine pure_ (i := 11) (N := some 76) (v := ?_) (a' := ?_) #[true, true, true, true, true, true, true, true, true, true, true, true, false, false, false, false, false, false, false, false, false, false, false, false, false, false, false, false, false, false, false, false, false] rfl rfl (any_of HT_.out (by kernel_rfl)) (fun _ _ _ h => h) (Or.inl ⟨by rfl, ?_⟩) ?_ ?_
          rotate_left
          · intro w'
            go_simp
            with_reducible rfl
          rotate_left
          · simp only [Act.put, List.setIfInBounds_toArray, List.set_cons_zero, List.set_cons_succ, i64_w, i32_w]
            rfl
          refine pure_ (i := 12) (N := some 77) (v := ?_) (a' := ?_) #[true, true, true, true, true, true, true, true, true, true, true, true, true, false, false, false, false, false, false, false, false, false, false, false, false, false, false, false, false, false, false, false, false] rfl rfl (any_of HT_.out (by kernel_rfl)) (fun _ _ _ h => h) (Or.inl ⟨by rfl, ?_⟩) ?_ ?_
          rotate_left
          · intro w'
            go_simp
            with_reducible rfl
          rotate_left
          · simp only [Act.put, List.setIfInBounds_toArray, List.set_cons_zero, List.set_cons_succ, i64_w, i32_w]
            rfl
          refine pure_ (i := 13) (N := some 78) (v := ?_) (a' := ?_) #[true, true, true, true, true, true, true, true, true, true, true, true, true, true, false, false, false, false, false, false, false, false, false, false, false, false, false, false, false, false, false, false, false] rfl rfl (any_of HT_.out (by kernel_rfl)) (fun _ _ _ h => h) (Or.inl ⟨by rfl, ?_⟩) ?_ ?_
          rotate_left
          · intro w'
            go_simp
            with_reducible rfl
          rotate_left
          · simp only [Act.put, List.setIfInBounds_toArray, List.set_cons_zero, List.set_cons_succ, i64_w, i32_w]
            rfl
          refine pure_ (i := 14) (N := some 79) (v := ?_) (a' := ?_) #[true, true, true, true, true, true, true, true, true, true, true, true, true, true, true, false, false, false, false, false, false, false, false, false, false, false, false, false, false, false, false, false, false] rfl rfl (any_of HT_.out (by kernel_rfl)) (fun _ _ _ h => h) (Or.inl ⟨by rfl, ?_⟩) ?_ ?_
          rotate_left
          · intro w'
            go_simp
            with_reducible rfl
          rotate_left
          · simp only [Act.put, List.setIfInBounds_toArray, List.set_cons_zero, List.set_cons_succ, i64_w, i32_w]
            rfl
          refine pure_ (i := 15) (N := some 80) (v := ?_) (a' := ?_) #[true, true, true, true, true, true, true, true, true, true, true, true, true, true, true, true, false, false, false, false, false, false, false, false, false, false, false, false, false, false, false, false, false] rfl rfl (any_of HT_.out (by kernel_rfl)) (fun _ _ _ h => h) (Or.inl ⟨by rfl, ?_⟩) ?_ ?_
          rotate_left
          · intro w'
            go_simp
            with_reducible rfl
          rotate_left
          · simp only [Act.put, List.setIfInBounds_toArray, List.set_cons_zero, List.set_cons_succ, i64_w, i32_w]
            rfl
          refine pure_ (i := 17) (N := some 82) (v := ?_) (a' := ?_) #[true, true, true, true, true, true, true, true, true, true, true, true, true, true, true, true, false, true, false, false, false, false, false, false, false, false, false, false, false, false, false, false, false] rfl rfl (any_of HT_.out (by kernel_rfl)) (fun _ _ _ h => h) (Or.inl ⟨by rfl, ?_⟩) ?_ ?_
          rotate_left
          · intro w'
            go_simp
            with_reducible rfl
          rotate_left
          · simp only [Act.put, List.setIfInBounds_toArray, List.set_cons_zero, List.set_cons_succ, i64_w, i32_w]
            rfl
          refine pure_ (i := 21) (N := some 86) (v := ?_) (a' := ?_) #[true, true, true, true, true, true, true, true, true, true, true, true, true, true, true, true, false, true, false, false, false, true, false, false, false, false, false, false, false, false, false, false, false] rfl rfl (any_of HT_.out (by kernel_rfl)) (fun _ _ _ h => h) (Or.inl ⟨by rfl, ?_⟩) ?_ ?_
          rotate_left
          · intro w'
            go_simp
            with_reducible rfl
          rotate_left
          · simp only [Act.put, List.setIfInBounds_toArray, List.set_cons_zero, List.set_cons_succ, i64_w, i32_w]
            rfl
          refine pure_ (i := 22) (N := some 87) (v := ?_) (a' := ?_) #[true, true, true, true, true, true, true, true, true, true, true, true, true, true, true, true, false, true, false, false, false, true, true, false, false, false, false, false, false, false, false, false, false] rfl rfl (any_of HT_.out (by kernel_rfl)) (fun _ _ _ h => h) (Or.inl ⟨by rfl, ?_⟩) ?_ ?_
          rotate_left
          · intro w'
            go_simp
            with_reducible rfl
          rotate_left
          · simp only [Act.put, List.setIfInBounds_toArray, List.set_cons_zero, List.set_cons_succ, i64_w, i32_w]
            rfl
          refine pure_ (i := 24) (N := some 89) (v := ?_) (a' := ?_) #[true, true, true, true, true, true, true, true, true, true, true, true, true, true, true, true, false, true, false, false, false, true, true, false, true, false, false, false, false, false, false, false, false] rfl rfl (any_of HT_.out (by kernel_rfl)) (fun _ _ _ h => h) (Or.inl ⟨by rfl, ?_⟩) ?_ ?_
          rotate_left
          · intro w'
            go_simp
            with_reducible rfl
          rotate_left
          · simp only [Act.put, List.setIfInBounds_toArray, List.set_cons_zero, List.set_cons_succ, i64_w, i32_w]
            rfl
          refine pure_ (i := 29) (N := some 94) (v := ?_) (a' := ?_) #[true, true, true, true, true, true, true, true, true, true, true, true, true, true, true, true, false, true, false, false, false, true, true, false, true, false, false, false, false, true, false, false, false] rfl rfl (any_of HT_.out (by kernel_rfl)) (fun _ _ _ h => h) (Or.inl ⟨by rfl, ?_⟩) ?_ ?_
          rotate_left
          · intro w'
            go_simp
            with_reducible rfl
          rotate_left
          · simp only [Act.put, List.setIfInBounds_toArray, List.set_cons_zero, List.set_cons_succ, i64_w, i32_w]
            rfl
          refine take_ (i := 16) (N := some 81) (v := ?_) (a' := ?_) #[true, true, true, true, true, true, true, true, true, true, true, true, true, true, true, true, true, true, false, false, false, true, true, false, true, false, false, false, false, true, false, false, false] rfl rfl (take_ofW HT_.out HW_.out (by kernel_rfl)) (fun _ _ _ h => h) (Or.inl ⟨by rfl, ?_⟩) hHeld ?_ ?_
          rotate_left
          · rintro w' ⟨s0, s1, s2, s3, s4, s5, s6, s7, s8, s9, s10⟩
            go_simp
            with_reducible rfl
          rotate_left
          · simp only [Act.put, List.setIfInBounds_toArray, List.set_cons_zero, List.set_cons_succ, i64_w, i32_w]
            rfl
          refine pure_ (i := 18) (N := some 83) (v := ?_) (a' := ?_) #[true, true, true, true, true, true, true, true, true, true, true, true, true, true, true, true, true, true, true, false, false, true, true, false, true, false, false, false, false, true, false, false, false] rfl rfl (any_of HT_.out (by kernel_rfl)) (fun _ _ _ h => h) (Or.inl ⟨by rfl, ?_⟩) ?_ ?_
          rotate_left
          · intro w'
            go_simp
            with_reducible rfl
          rotate_left
          · simp only [Act.put, List.setIfInBounds_toArray, List.set_cons_zero, List.set_cons_succ, i64_w, i32_w]
            rfl
          refine take_ (i := 19) (N := some 84) (v := ?_) (a' := ?_) #[true, true, true, true, true, true, true, true, true, true, true, true, true, true, true, true, true, true, true, true, false, true, true, false, true, false, false, false, false, true, false, false, false] rfl rfl (take_ofW HT_.out HW_.out (by kernel_rfl)) (fun _ _ _ h => h) (Or.inl ⟨by rfl, ?_⟩) hHeld ?_ ?_
          rotate_left
          · rintro w' ⟨s0, s1, s2, s3, s4, s5, s6, s7, s8, s9, s10⟩
            go_simp
            with_reducible rfl
          rotate_left
          · simp only [Act.put, List.setIfInBounds_toArray, List.set_cons_zero, List.set_cons_succ, i64_w, i32_w]
            rfl
          refine take_ (i := 20) (N := some 85) (v := ?_) (a' := ?_) #[true, true, true, true, true, true, true, true, true, true, true, true, true, true, true, true, true, true, true, true, true, true, true, false, true, false, false, false, false, true, false, false, false] rfl rfl (take_ofW HT_.out HW_.out (by kernel_rfl)) (fun _ _ _ h => h) (Or.inl ⟨by rfl, ?_⟩) hHeld ?_ ?_
          rotate_left
          · rintro w' ⟨s0, s1, s2, s3, s4, s5, s6, s7, s8, s9, s10⟩
            go_simp
            with_reducible rfl
          rotate_left
          · simp only [Act.put, List.setIfInBounds_toArray, List.set_cons_zero, List.set_cons_succ, i64_w, i32_w]
            rfl
          refine take_ (i := 23) (N := some 88) (v := ?_) (a' := ?_) #[true, true, true, true, true, true, true, true, true, true, true, true, true, true, true, true, true, true, true, true, true, true, true, true, true, false, false, false, false, true, false, false, false] rfl rfl (take_ofW HT_.out HW_.out (by kernel_rfl)) (fun _ _ _ h => h) (Or.inl ⟨by rfl, ?_⟩) hHeld ?_ ?_
          rotate_left
          · rintro w' ⟨s0, s1, s2, s3, s4, s5, s6, s7, s8, s9, s10⟩
            go_simp
            with_reducible rfl
          rotate_left
          · simp only [Act.put, List.setIfInBounds_toArray, List.set_cons_zero, List.set_cons_succ, i64_w, i32_w]
            rfl
          refine pure_ (i := 25) (N := some 90) (v := ?_) (a' := ?_) #[true, true, true, true, true, true, true, true, true, true, true, true, true, true, true, true, true, true, true, true, true, true, true, true, true, true, false, false, false, true, false, false, false] rfl rfl (any_of HT_.out (by kernel_rfl)) (fun _ _ _ h => h) (Or.inl ⟨by rfl, ?_⟩) ?_ ?_
          rotate_left
          · intro w'
            go_simp
            with_reducible rfl
          rotate_left
          · simp only [Act.put, List.setIfInBounds_toArray, List.set_cons_zero, List.set_cons_succ, i64_w, i32_w]
            rfl
          refine pure_ (i := 26) (N := some 91) (v := ?_) (a' := ?_) #[true, true, true, true, true, true, true, true, true, true, true, true, true, true, true, true, true, true, true, true, true, true, true, true, true, true, true, false, false, true, false, false, false] rfl rfl (any_of HT_.out (by kernel_rfl)) (fun _ _ _ h => h) (Or.inl ⟨by rfl, ?_⟩) ?_ ?_
          rotate_left
          · intro w'
            go_simp
            with_reducible rfl
          rotate_left
          · simp only [Act.put, List.setIfInBounds_toArray, List.set_cons_zero, List.set_cons_succ, i64_w, i32_w]
            rfl
          refine take_ (i := 27) (N := some 92) (v := ?_) (a' := ?_) #[true, true, true, true, true, true, true, true, true, true, true, true, true, true, true, true, true, true, true, true, true, true, true, true, true, true, true, true, false, true, false, false, false] rfl rfl (take_ofW HT_.out HW_.out (by kernel_rfl)) (fun _ _ _ h => h) (Or.inl ⟨by rfl, ?_⟩) hHeld ?_ ?_
          rotate_left
          · rintro w' ⟨s0, s1, s2, s3, s4, s5, s6, s7, s8, s9, s10⟩
            go_simp
            with_reducible rfl
          rotate_left
          · simp only [Act.put, List.setIfInBounds_toArray, List.set_cons_zero, List.set_cons_succ, i64_w, i32_w]
            rfl
          refine pure_ (i := 28) (N := some 93) (v := ?_) (a' := ?_) #[true, true, true, true, true, true, true, true, true, true, true, true, true, true, true, true, true, true, true, true, true, true, true, true, true, true, true, true, true, true, false, false, false] rfl rfl (any_of HT_.out (by kernel_rfl)) (fun _ _ _ h => h) (Or.inl ⟨by rfl, ?_⟩) ?_ ?_
          rotate_left
          · intro w'
            go_simp
            with_reducible rfl
          rotate_left
          · simp only [Act.put, List.setIfInBounds_toArray, List.set_cons_zero, List.set_cons_succ, i64_w, i32_w]
            rfl
          refine one_ (i := 30) (N := some 95) #[true, true, true, true, true, true, true, true, true, true, true, true, true, true, true, true, true, true, true, true, true, true, true, true, true, true, true, true, true, true, true, false, false] rfl rfl (one_of HT_.out (by kernel_rfl)) (by decide) (fun K hK => ?_)
          refine goes_ Try.func19 (by kernel_rfl) rfl #[.agg #[.string a0, .bool a1, .int .i64 a2, .int .i64 a3, .slice A4 l4.length c4, .slice (some ad) l5.length c5], .int .i64 i, .int .i64 (nl : Int), .int .i64 r] (by rfl) rfl rfl (by simp only [List.map_toArray, List.map_cons, List.map_nil]; rfl) ?_
          with_reducible refine (rushlightref16_Live.calls k2 a0 a1 a2 a3 A4 c4 l4 (some ad) c5 l5 (i : Int) (nl : Int) (r : Int) x2 _ (Kd.C_below HR4.out (below_step HBr.out Hw5.out)) HC4.out (Kd.C_below HR5.out (below_step HBr.out Hw5.out)) HC5.out HX2.out).mono ?_
          rintro e w6 ⟨rfl, hb⟩
          refine ⟨_, rfl, ?_⟩
          have Hw6 := Aside0.mk (below_step Hw5.out hb)
          obtain ⟨z0, z1, z2, z3, z4, z5, z6, z7, z8, z9, z10⟩ := hHeld
          refine hK.out _ _ ⟨(hb.cell (World.block_lt_of_cell? _ _ z0)).trans z0, (hb.cell (World.block_lt_of_cell? _ _ z1)).trans z1, (hb.cell (World.block_lt_of_cell? _ _ z2)).trans z2, (hb.cell (World.block_lt_of_cell? _ _ z3)).trans z3, (hb.cell (World.block_lt_of_cell? _ _ z4)).trans z4, (hb.cell (World.block_lt_of_cell? _ _ z5)).trans z5, (hb.cell (World.block_lt_of_cell? _ _ z6)).trans z6, (hb.cell (World.block_lt_of_cell? _ _ z7)).trans z7, (hb.cell (World.block_lt_of_cell? _ _ z8)).trans z8, (hb.cell (World.block_lt_of_cell? _ _ z9)).trans z9, (hb.cell (World.block_lt_of_cell? _ _ z10)).trans z10⟩ (fun hHeld => ?_)
          clear hK K
          refine norm_ (a' := ?_) ?_ ?_
          rotate_left
          · show Act.put _ (some 95) _ = _
            simp only [Act.put, List.setIfInBounds_toArray, List.set_cons_zero, List.set_cons_succ, i64_w, i32_w]
            rfl
          refine pure_ (i := 31) (N := some 96) (v := ?_) (a' := ?_) #[true, true, true, true, true, true, true, true, true, true, true, true, true, true, true, true, true, true, true, true, true, true, true, true, true, true, true, true, true, true, true, true, false] rfl rfl (any_of HT_.out (by kernel_rfl)) (fun _ _ _ h => h) (Or.inl ⟨by rfl, ?_⟩) ?_ ?_
          rotate_left
          · intro w'
            go_simp
            with_reducible rfl
          rotate_left
          · simp only [Act.put, List.setIfInBounds_toArray, List.set_cons_zero, List.set_cons_succ, i64_w, i32_w]
            rfl
          refine pure_ (i := 32) (N := some 97) (v := ?_) (a' := ?_) #[true, true, true, true, true, true, true, true, true, true, true, true, true, true, true, true, true, true, true, true, true, true, true, true, true, true, true, true, true, true, true, true, true] rfl rfl (any_of HT_.out (by kernel_rfl)) (fun _ _ _ h => h) (Or.inl ⟨by rfl, ?_⟩) ?_ ?_
          rotate_left
          · intro w'
            go_simp
            with_reducible rfl
          rotate_left
          · simp only [Act.put, List.setIfInBounds_toArray, List.set_cons_zero, List.set_cons_succ, i64_w, i32_w]
            rfl
          refine done_ (done_of HT_.out (by kernel_rfl)) ?_
          go_wp2
          go_roundg (gk - 1)
          case measure => have := HKr.out; omega
          case rel => exact ⟨r + 1, by go_num, ⟨by have := HKr.out; omega⟩, by omega, ⟨HL.out.step Hw6.out⟩⟩
        · obtain rfl : r = n := by omega
          go_wp2
          go_roundg (l5.length - (i + 1))
          case measure => have := HK.out; omega
          case rel => exact ⟨i + 1, by go_num, ⟨by omega⟩, by omega, HL⟩
    · obtain rfl : i = l5.length := by omega
      go_wp2_with (go_at_call 17; refine (flow_awake.calls _).mono ?_; rintro e w3 ⟨rfl, hb⟩; have HB3 := Aside0.mk (below_step HB1.out (below_step HL.out.below hb)); clear hb)
      go_ret
      exact ⟨rfl, HB3.out⟩
end Go.Proofs.Ytppanpboejpmjaa.Tr
