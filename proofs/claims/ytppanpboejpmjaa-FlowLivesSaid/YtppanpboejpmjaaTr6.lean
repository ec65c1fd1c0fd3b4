-- Written by this session's own program (wip/tools/myprint.py over the kit's printer), functions proved by hand among them. Not trusted: Lean checks it.
import Derived.Test.YtppanpboejpmjaaTr0
import Derived.Test.YtppanpboejpmjaaTr4
import Derived.Test.YtppanpboejpmjaaTr5
/- shrunk -/
namespace Go.Proofs.Ytppanpboejpmjaa.Tr
open Go.RowKit Go.Proofs.YtppanpboejpmjaaW.PrintWords Go.Proofs.YtppanpboejpmjaaW.PrintLast Go.Proofs.YtppanpboejpmjaaW.PrintMore
attribute [local go_sem] max2_int min2_int max_two min_two max_three min_three max_four min_four   -- for this text's walks alone
set_option linter.unusedVariables false
set_option linter.unusedSimpArgs false

/-! ### rushlightref16_within: function 51 -/
def rushlightref16_within.l0 : Nat → Int → Int → List (S84) → Int → Int → Int → Int → Option (Int)
 | 0, _, _, _, _, _, _, _ => none
 | k + 1, x2, x7, x327000, x327001, x327002, x327003, x327004 => if x7 < (x327000.length : Int) then (if 0 ≤ x7 then ((rushlightref13_Uses.f k ((rd_T84 x327000 x7).f0) ((rd_T84 x327000 x7).f1) ((rd_T84 x327000 x7).f2) ((rd_T84 x327000 x7).f3) ((rd_T84 x327000 x7).f4) ((rd_T84 x327000 x7).f5) ((rd_T84 x327000 x7).f6) ((rd_T84 x327000 x7).f7) ((rd_T84 x327000 x7).f8) ((rd_T84 x327000 x7).f9) ((rd_T84 x327000 x7).f10)).bind fun t328 => ((rushlightref16_has.f k t328 x2).bind fun t331 => (if t331 = true then (some 1) else ((rushlightref13_Def.f ((rd_T84 x327000 x7).f0) ((rd_T84 x327000 x7).f1) ((rd_T84 x327000 x7).f2) ((rd_T84 x327000 x7).f3) ((rd_T84 x327000 x7).f4) ((rd_T84 x327000 x7).f5) ((rd_T84 x327000 x7).f6) ((rd_T84 x327000 x7).f7) ((rd_T84 x327000 x7).f8) ((rd_T84 x327000 x7).f9) ((rd_T84 x327000 x7).f10)).bind fun t333 => (if t333 = x2 then (some 2) else (rushlightref16_within.l0 k x2 (wrap64 (x7 + 1)) x327000 x327001 x327002 x327003 x327004)))))) else (none)) else (if x327001 = 2 then (if x327002 = x2 then (some 1) else (some 0)) else (if x327001 = 3 then (if x327002 = x2 then (some 1) else (some 0)) else (some 0)))
def rushlightref16_within.f (k : Nat) (l0_0 : List (S84)) (a0_1 : Int) (a0_2 : Int) (a0_3 : Int) (a0_4 : Int) (a1 : Int) (a2 : Int) : Option (Int) := rushlightref16_within.l0 k a2 a1 l0_0 a0_1 a0_2 a0_3 a0_4
set_option maxHeartbeats 8000000 in
set_option maxRecDepth 100000 in
theorem rushlightref16_within.calls (k : Nat) (A0_0 : Option Addr) (c0_0 : Nat) (l0_0 : List (S84)) (a0_1 : Int) (a0_2 : Int) (a0_3 : Int) (a0_4 : Int) (a1 : Int) (a2 : Int) (r : Int) (w : World) (hr0_0 : Kd.C k84 w A0_0 l0_0.length l0_0) (hc0_0 : l0_0.length ≤ c0_0) (h : rushlightref16_within.f k l0_0 a0_1 a0_2 a0_3 a0_4 a1 a2 = some r) :
  Calls Try.prog 51 #[.agg #[.slice A0_0 l0_0.length c0_0, .int .i64 a0_1, .int .i64 a0_2, .int .i64 a0_3, .int .i64 a0_4], .int .i64 a1, .int .i64 a2] w fun e w' => e = .returned (.int .i64 r) ∧ Below w.heap.size w w' := by
 have hu45 := Try.underlying45
 have hu84 := Try.underlying84
 have HR0_0 := Aside0.mk hr0_0
 have HC0_0 := Aside0.mk hc0_0
 clear hr0_0 hc0_0
 have HB := Aside0.mk (Below.refl w.heap.size w)
 have H : (rushlightref16_within.l0 k a2 a1 l0_0 a0_1 a0_2 a0_3 a0_4) = some r := h
 clear h
 have H' := Aside0.mk H
 clear H
 go_enter Try.func51, Try.ntmps51
 go_wp2_with (first | ((with_reducible refine gate_dst (N := 3) rfl ?_); refine box_event ?hg (N := 3) ?hd (cs := #[.slice A0_0 l0_0.length c0_0, .int .i64 a0_1, .int .i64 a0_2, .int .i64 a0_3, .int .i64 a0_4]) (t := 45) ?hr ?_; (case hd => rfl); (case hg => rfl); (case hr => first | (go_simp; done) | (go_simp; rfl)); intro gb326 hg w4 hbox hb; have n0_ := Aside0.mk (below_step (by repeat (first | (with_reducible first | exact HB.out | apply below_alloc | apply pw_below_drewN | apply below_drew1) | exact HB.out)) hb); have n1_ := Aside0.mk (hbox); have n2_ := Aside0.mk ((by rw [hg]; exact (below_size (by repeat (first | (with_reducible first | exact HB.out | apply below_alloc | apply pw_below_drewN | apply below_drew1) | exact HB.out))) : w.heap.size ≤ gb326)); have n3_ := Aside0.mk ((by rw [hg]; exact (below_size (by repeat (first | (with_reducible first | exact HB.out | apply below_alloc | apply pw_below_drewN | apply below_drew1) | exact HB.out))) : w.heap.size ≤ gb326)); clear HB; have HB := n0_; have BK326 := n1_; have GW326 := n2_; have GE326 := n3_; clear n0_ n1_ n2_ n3_; clear hb hbox hg))
 go_loopg [7] k (fun kq v7 w' => ∃ (x7_1 : Int), v7 = .int .i64 x7_1 ∧ Aside0 (rushlightref16_within.l0 kq a2 x7_1 l0_0 a0_1 a0_2 a0_3 a0_4 = some r) ∧ Aside0 (kq ≤ k) ∧ Aside0 (w'.heap[gb326]? = some (.cells #[(.slice A0_0 l0_0.length c0_0), .int .i64 a0_1, .int .i64 a0_2, .int .i64 a0_3, .int .i64 a0_4] 45 (0, 0))) ∧ Aside0 (Below w.heap.size w w'))
 case atStart => exact ⟨(a1), (by first | rfl | (simp; done) | (simp [*]; done)), H', ⟨Nat.le_refl _⟩, ⟨by (with_reducible repeat (first | refine blk_drewN ?_ _ | refine blk_drew ?_ | refine blk_alloc ?_ _)); exact BK326.out⟩, ⟨by repeat (first | (with_reducible first | exact HB.out | apply below_alloc | apply pw_below_drewN | apply below_drew1 | refine below_set ?_ GE326.out) | exact HB.out)⟩⟩
 case round =>
  clear H'
  obtain ⟨x7_1, rfl, HA, HK1, BK326, HB⟩ := hrel
  cases gk with
  | zero => exact absurd HA.out (by simp [rushlightref16_within.l0])
  | succ k1 =>
   have H := HA.out
   clear HA
   simp only [rushlightref16_within.l0] at H
   by_cases c5 : x7_1 < (l0_0.length : Int)
   ·
    rw [if_pos c5] at H
    have c5b0 : decide (x7_1 < (l0_0.length : Int)) = true := decide_eq_true c5
    clear c5
    by_cases c6 : 0 ≤ x7_1
    ·
     rw [if_pos c6] at H
     have c6b0 : decide (0 ≤ x7_1) = true := decide_eq_true c6
     clear c6
     replace H := Option.bind_eq_some_iff.mp H
     obtain ⟨t328, A70, H⟩ := H
     replace H : ((rushlightref16_has.f k1 t328 a2).bind fun t331 => (if t331 = true then (some 1) else ((rushlightref13_Def.f ((rd_T84 l0_0 x7_1).f0) ((rd_T84 l0_0 x7_1).f1) ((rd_T84 l0_0 x7_1).f2) ((rd_T84 l0_0 x7_1).f3) ((rd_T84 l0_0 x7_1).f4) ((rd_T84 l0_0 x7_1).f5) ((rd_T84 l0_0 x7_1).f6) ((rd_T84 l0_0 x7_1).f7) ((rd_T84 l0_0 x7_1).f8) ((rd_T84 l0_0 x7_1).f9) ((rd_T84 l0_0 x7_1).f10)).bind fun t333 => (if t333 = a2 then (some 2) else (rushlightref16_within.l0 k1 a2 (wrap64 (x7_1 + 1)) l0_0 a0_1 a0_2 a0_3 a0_4))))) = some r := H
     have A7 := Aside0.mk A70
     clear A70
     replace H := Option.bind_eq_some_iff.mp H
     obtain ⟨t331, A80, H⟩ := H
     replace H : (if t331 = true then (some 1) else ((rushlightref13_Def.f ((rd_T84 l0_0 x7_1).f0) ((rd_T84 l0_0 x7_1).f1) ((rd_T84 l0_0 x7_1).f2) ((rd_T84 l0_0 x7_1).f3) ((rd_T84 l0_0 x7_1).f4) ((rd_T84 l0_0 x7_1).f5) ((rd_T84 l0_0 x7_1).f6) ((rd_T84 l0_0 x7_1).f7) ((rd_T84 l0_0 x7_1).f8) ((rd_T84 l0_0 x7_1).f9) ((rd_T84 l0_0 x7_1).f10)).bind fun t333 => (if t333 = a2 then (some 2) else (rushlightref16_within.l0 k1 a2 (wrap64 (x7_1 + 1)) l0_0 a0_1 a0_2 a0_3 a0_4)))) = some r := H
     have A8 := Aside0.mk A80
     clear A80
     by_cases c9 : t331 = true
     ·
      subst c9
      have H1 : (some 1) = some r := by rw [if_pos rfl] at H; exact H
      clear H
      have H := H1
      clear H1
      obtain rfl := Option.some.inj H
      have hcz10_0 : wr.cell? ⟨gb326, 0, none⟩ = some (.slice A0_0 l0_0.length c0_0) := (blk_cell BK326.out 0).trans rfl
      have hcz10_1 : wr.cell? ⟨gb326, 1, none⟩ = some (.int .i64 a0_1) := (blk_cell BK326.out 1).trans rfl
      have hcz10_2 : wr.cell? ⟨gb326, 2, none⟩ = some (.int .i64 a0_2) := (blk_cell BK326.out 2).trans rfl
      have hcz10_3 : wr.cell? ⟨gb326, 3, none⟩ = some (.int .i64 a0_3) := (blk_cell BK326.out 3).trans rfl
      have hcz10_4 : wr.cell? ⟨gb326, 4, none⟩ = some (.int .i64 a0_4) := (blk_cell BK326.out 4).trans rfl
      have hfz10_0 := blk_frozen BK326.out 0
      have hfz10_1 := blk_frozen BK326.out 1
      have hfz10_2 := blk_frozen BK326.out 2
      have hfz10_3 := blk_frozen BK326.out 3
      have hfz10_4 := blk_frozen BK326.out 4
      have p327 : 0 ≤ (x7_1 : Int) := of_decide_eq_true (by first | (with_reducible assumption) | assumption)
      have q327 : x7_1 < (l0_0.length : Int) := of_decide_eq_true (by first | (with_reducible assumption) | assumption)
      obtain ⟨ad327, A327_9, c327_9, e327, hx327_0, hx327_1, hx327_2, hx327_3, hx327_4, hx327_5, hx327_6, hx327_7, hx327_8, hx327_9, hx327_10, hl327_9, hi327_9⟩ := at_T84 HR0_0.out x7_1 p327 q327
      cases e327
      replace hx327_0 := (HB.out.cell (World.block_lt_of_cell? w _ hx327_0)).trans hx327_0
      replace hx327_1 := (HB.out.cell (World.block_lt_of_cell? w _ hx327_1)).trans hx327_1
      replace hx327_2 := (HB.out.cell (World.block_lt_of_cell? w _ hx327_2)).trans hx327_2
      replace hx327_3 := (HB.out.cell (World.block_lt_of_cell? w _ hx327_3)).trans hx327_3
      replace hx327_4 := (HB.out.cell (World.block_lt_of_cell? w _ hx327_4)).trans hx327_4
      replace hx327_5 := (HB.out.cell (World.block_lt_of_cell? w _ hx327_5)).trans hx327_5
      replace hx327_6 := (HB.out.cell (World.block_lt_of_cell? w _ hx327_6)).trans hx327_6
      replace hx327_7 := (HB.out.cell (World.block_lt_of_cell? w _ hx327_7)).trans hx327_7
      replace hx327_8 := (HB.out.cell (World.block_lt_of_cell? w _ hx327_8)).trans hx327_8
      replace hx327_9 := (HB.out.cell (World.block_lt_of_cell? w _ hx327_9)).trans hx327_9
      replace hx327_10 := (HB.out.cell (World.block_lt_of_cell? w _ hx327_10)).trans hx327_10
      have HR327_9 := Aside0.mk hi327_9
      have HC327_9 := Aside0.mk hl327_9
      clear hi327_9 hl327_9
      replace p327 := eq_true p327
      replace q327 := eq_true q327
      go_wp2_with (first | ((with_reducible refine gate_callee (f := 40) rfl ?_); refine goesL_ (some 21) rfl rfl Try.func40 (by kernel_rfl) rfl #[.agg #[.int .i64 ((rd_T84 l0_0 x7_1).f0), .int .i64 ((rd_T84 l0_0 x7_1).f1), .int .i64 ((rd_T84 l0_0 x7_1).f2), .int .i64 ((rd_T84 l0_0 x7_1).f3), .int .i64 ((rd_T84 l0_0 x7_1).f4), .int .i64 ((rd_T84 l0_0 x7_1).f5), .int .i64 ((rd_T84 l0_0 x7_1).f6), .int .i64 ((rd_T84 l0_0 x7_1).f7), .int .u32 ((rd_T84 l0_0 x7_1).f8), .slice A327_9 ((rd_T84 l0_0 x7_1).f9).length c327_9, .bool ((rd_T84 l0_0 x7_1).f10)]] rfl (by (try simp only [List.map_toArray, List.map_cons, List.map_nil]); first | done | rfl | (simp only [List.length_drop, List.length_take]; rfl)) ?_; (with_reducible refine (rushlightref13_Uses.calls k1 ((rd_T84 l0_0 x7_1).f0) ((rd_T84 l0_0 x7_1).f1) ((rd_T84 l0_0 x7_1).f2) ((rd_T84 l0_0 x7_1).f3) ((rd_T84 l0_0 x7_1).f4) ((rd_T84 l0_0 x7_1).f5) ((rd_T84 l0_0 x7_1).f6) ((rd_T84 l0_0 x7_1).f7) ((rd_T84 l0_0 x7_1).f8) _ _ ((rd_T84 l0_0 x7_1).f9) ((rd_T84 l0_0 x7_1).f10) t328 _ ?side1 ?side2 A7.out).mono ?_); (case side1 => repeat (first | exact (Kd.C_below HR327_9.out HB.out) | (with_reducible refine Kd.C_alloc ?_ _) | (with_reducible refine Kd.C_drewN ?_ _) | (with_reducible refine Kd.C_drew ?_))); (case side2 => exact HC327_9.out); rintro e w11 ⟨v329, rfl, ho0, hb⟩; refine ⟨_, rfl, ?_⟩; have n0_ := Aside0.mk (Kd.R_lower ho0 (below_size (by repeat (first | (with_reducible first | exact HB.out | apply below_alloc | apply pw_below_drewN | apply below_drew1 | refine below_set ?_ GE326.out) | exact HB.out)))); have n1_ := Aside0.mk (blk_below (g := gb326) (o := .cells #[.slice (some ad327) l0_0.length c0_0, .int .i64 a0_1, .int .i64 a0_2, .int .i64 a0_3, .int .i64 a0_4] 45 (0, 0)) (by (with_reducible repeat (first | refine blk_drewN ?_ _ | refine blk_drew ?_ | refine blk_alloc ?_ _)); exact BK326.out) hb); have n2_ := Aside0.mk (below_step (by repeat (first | (with_reducible first | exact HB.out | apply below_alloc | apply pw_below_drewN | apply below_drew1 | refine below_set ?_ GE326.out) | exact HB.out)) hb); clear BK326; clear HB; have HO330 := n0_; have BK326 := n1_; have HB := n2_; clear n0_ n1_ n2_; (try clear hb); (try clear hb2); (try clear hk); (try clear hi); (try clear ho0); obtain ⟨Ao12, co12, eo12⟩ := Kd.R_slice HO330.out; subst eo12) | (go_at_call 80; (with_reducible refine (rushlightref16_has.calls k1 _ _ t328 a2 true _ ?side1 ?side2 A8.out).mono ?_); (case side1 => repeat (first | exact (Kd.R_reads' HO330.out).2.2 | (with_reducible refine Kd.C_alloc ?_ _) | (with_reducible refine Kd.C_drewN ?_ _) | (with_reducible refine Kd.C_drew ?_))); (case side2 => exact (Kd.R_reads' HO330.out).2.1); rintro e w' ⟨rfl, ⟨nd, rfl⟩⟩))
      go_ret
      exact ⟨by first | rfl | (simp [errW_none, errW_some] <;> rfl) | (simp [*, errW_none, errW_some] <;> rfl), by repeat (first | (with_reducible first | exact HB.out | apply below_alloc | apply pw_below_drewN | apply below_drew1 | refine below_set ?_ GE326.out) | exact HB.out)⟩
     ·
      replace c9 := Bool.eq_false_iff.mpr c9
      subst c9
      have H1 : ((rushlightref13_Def.f ((rd_T84 l0_0 x7_1).f0) ((rd_T84 l0_0 x7_1).f1) ((rd_T84 l0_0 x7_1).f2) ((rd_T84 l0_0 x7_1).f3) ((rd_T84 l0_0 x7_1).f4) ((rd_T84 l0_0 x7_1).f5) ((rd_T84 l0_0 x7_1).f6) ((rd_T84 l0_0 x7_1).f7) ((rd_T84 l0_0 x7_1).f8) ((rd_T84 l0_0 x7_1).f9) ((rd_T84 l0_0 x7_1).f10)).bind fun t333 => (if t333 = a2 then (some 2) else (rushlightref16_within.l0 k1 a2 (wrap64 (x7_1 + 1)) l0_0 a0_1 a0_2 a0_3 a0_4))) = some r := by rw [if_neg (show ¬ (false = true) by decide)] at H; exact H
      clear H
      have H := H1
      clear H1
      replace H := Option.bind_eq_some_iff.mp H
      obtain ⟨t333, A130, H⟩ := H
      replace H : (if t333 = a2 then (some 2) else (rushlightref16_within.l0 k1 a2 (wrap64 (x7_1 + 1)) l0_0 a0_1 a0_2 a0_3 a0_4)) = some r := H
      have A13 := Aside0.mk A130
      clear A130
      by_cases c14 : t333 = a2
      ·
       rw [if_pos c14] at H
       have c14b0 : (t333 == a2) = true := beq_iff_eq.mpr c14
       have c14b1 : (t333 != a2) = false := bne_eq_false_iff_eq.mpr c14
       clear c14
       obtain rfl := Option.some.inj H
       have hcz15_0 : wr.cell? ⟨gb326, 0, none⟩ = some (.slice A0_0 l0_0.length c0_0) := (blk_cell BK326.out 0).trans rfl
       have hcz15_1 : wr.cell? ⟨gb326, 1, none⟩ = some (.int .i64 a0_1) := (blk_cell BK326.out 1).trans rfl
       have hcz15_2 : wr.cell? ⟨gb326, 2, none⟩ = some (.int .i64 a0_2) := (blk_cell BK326.out 2).trans rfl
       have hcz15_3 : wr.cell? ⟨gb326, 3, none⟩ = some (.int .i64 a0_3) := (blk_cell BK326.out 3).trans rfl
       have hcz15_4 : wr.cell? ⟨gb326, 4, none⟩ = some (.int .i64 a0_4) := (blk_cell BK326.out 4).trans rfl
       have hfz15_0 := blk_frozen BK326.out 0
       have hfz15_1 := blk_frozen BK326.out 1
       have hfz15_2 := blk_frozen BK326.out 2
       have hfz15_3 := blk_frozen BK326.out 3
       have hfz15_4 := blk_frozen BK326.out 4
       have p327 : 0 ≤ (x7_1 : Int) := of_decide_eq_true (by first | (with_reducible assumption) | assumption)
       have q327 : x7_1 < (l0_0.length : Int) := of_decide_eq_true (by first | (with_reducible assumption) | assumption)
       obtain ⟨ad327, A327_9, c327_9, e327, hx327_0, hx327_1, hx327_2, hx327_3, hx327_4, hx327_5, hx327_6, hx327_7, hx327_8, hx327_9, hx327_10, hl327_9, hi327_9⟩ := at_T84 HR0_0.out x7_1 p327 q327
       cases e327
       replace hx327_0 := (HB.out.cell (World.block_lt_of_cell? w _ hx327_0)).trans hx327_0
       replace hx327_1 := (HB.out.cell (World.block_lt_of_cell? w _ hx327_1)).trans hx327_1
       replace hx327_2 := (HB.out.cell (World.block_lt_of_cell? w _ hx327_2)).trans hx327_2
       replace hx327_3 := (HB.out.cell (World.block_lt_of_cell? w _ hx327_3)).trans hx327_3
       replace hx327_4 := (HB.out.cell (World.block_lt_of_cell? w _ hx327_4)).trans hx327_4
       replace hx327_5 := (HB.out.cell (World.block_lt_of_cell? w _ hx327_5)).trans hx327_5
       replace hx327_6 := (HB.out.cell (World.block_lt_of_cell? w _ hx327_6)).trans hx327_6
       replace hx327_7 := (HB.out.cell (World.block_lt_of_cell? w _ hx327_7)).trans hx327_7
       replace hx327_8 := (HB.out.cell (World.block_lt_of_cell? w _ hx327_8)).trans hx327_8
       replace hx327_9 := (HB.out.cell (World.block_lt_of_cell? w _ hx327_9)).trans hx327_9
       replace hx327_10 := (HB.out.cell (World.block_lt_of_cell? w _ hx327_10)).trans hx327_10
       have HR327_9 := Aside0.mk hi327_9
       have HC327_9 := Aside0.mk hl327_9
       clear hi327_9 hl327_9
       replace p327 := eq_true p327
       replace q327 := eq_true q327
       go_wp2_with (first | ((with_reducible refine gate_callee (f := 40) rfl ?_); refine goesL_ (some 21) rfl rfl Try.func40 (by kernel_rfl) rfl #[.agg #[.int .i64 ((rd_T84 l0_0 x7_1).f0), .int .i64 ((rd_T84 l0_0 x7_1).f1), .int .i64 ((rd_T84 l0_0 x7_1).f2), .int .i64 ((rd_T84 l0_0 x7_1).f3), .int .i64 ((rd_T84 l0_0 x7_1).f4), .int .i64 ((rd_T84 l0_0 x7_1).f5), .int .i64 ((rd_T84 l0_0 x7_1).f6), .int .i64 ((rd_T84 l0_0 x7_1).f7), .int .u32 ((rd_T84 l0_0 x7_1).f8), .slice A327_9 ((rd_T84 l0_0 x7_1).f9).length c327_9, .bool ((rd_T84 l0_0 x7_1).f10)]] rfl (by (try simp only [List.map_toArray, List.map_cons, List.map_nil]); first | done | rfl | (simp only [List.length_drop, List.length_take]; rfl)) ?_; (with_reducible refine (rushlightref13_Uses.calls k1 ((rd_T84 l0_0 x7_1).f0) ((rd_T84 l0_0 x7_1).f1) ((rd_T84 l0_0 x7_1).f2) ((rd_T84 l0_0 x7_1).f3) ((rd_T84 l0_0 x7_1).f4) ((rd_T84 l0_0 x7_1).f5) ((rd_T84 l0_0 x7_1).f6) ((rd_T84 l0_0 x7_1).f7) ((rd_T84 l0_0 x7_1).f8) _ _ ((rd_T84 l0_0 x7_1).f9) ((rd_T84 l0_0 x7_1).f10) t328 _ ?side1 ?side2 A7.out).mono ?_); (case side1 => repeat (first | exact (Kd.C_below HR327_9.out HB.out) | (with_reducible refine Kd.C_alloc ?_ _) | (with_reducible refine Kd.C_drewN ?_ _) | (with_reducible refine Kd.C_drew ?_))); (case side2 => exact HC327_9.out); rintro e w16 ⟨v329, rfl, ho0, hb⟩; refine ⟨_, rfl, ?_⟩; have n0_ := Aside0.mk (Kd.R_lower ho0 (below_size (by repeat (first | (with_reducible first | exact HB.out | apply below_alloc | apply pw_below_drewN | apply below_drew1 | refine below_set ?_ GE326.out) | exact HB.out)))); have n1_ := Aside0.mk (blk_below (g := gb326) (o := .cells #[.slice (some ad327) l0_0.length c0_0, .int .i64 a0_1, .int .i64 a0_2, .int .i64 a0_3, .int .i64 a0_4] 45 (0, 0)) (by (with_reducible repeat (first | refine blk_drewN ?_ _ | refine blk_drew ?_ | refine blk_alloc ?_ _)); exact BK326.out) hb); have n2_ := Aside0.mk (below_step (by repeat (first | (with_reducible first | exact HB.out | apply below_alloc | apply pw_below_drewN | apply below_drew1 | refine below_set ?_ GE326.out) | exact HB.out)) hb); clear BK326; clear HB; have HO330 := n0_; have BK326 := n1_; have HB := n2_; clear n0_ n1_ n2_; (try clear hb); (try clear hb2); (try clear hk); (try clear hi); (try clear ho0); obtain ⟨Ao17, co17, eo17⟩ := Kd.R_slice HO330.out; subst eo17) | (go_at_call 80; (with_reducible refine (rushlightref16_has.calls k1 _ _ t328 a2 false _ ?side1 ?side2 A8.out).mono ?_); (case side1 => repeat (first | exact (Kd.R_reads' HO330.out).2.2 | (with_reducible refine Kd.C_alloc ?_ _) | (with_reducible refine Kd.C_drewN ?_ _) | (with_reducible refine Kd.C_drew ?_))); (case side2 => exact (Kd.R_reads' HO330.out).2.1); rintro e w' ⟨rfl, ⟨nd, rfl⟩⟩; have hcz18_0 : w16.cell? ⟨gb326, 0, none⟩ = some (.slice (some ad327) l0_0.length c0_0) := (blk_cell BK326.out 0).trans rfl; have hcz18_1 : w16.cell? ⟨gb326, 1, none⟩ = some (.int .i64 a0_1) := (blk_cell BK326.out 1).trans rfl; have hcz18_2 : w16.cell? ⟨gb326, 2, none⟩ = some (.int .i64 a0_2) := (blk_cell BK326.out 2).trans rfl; have hcz18_3 : w16.cell? ⟨gb326, 3, none⟩ = some (.int .i64 a0_3) := (blk_cell BK326.out 3).trans rfl; have hcz18_4 : w16.cell? ⟨gb326, 4, none⟩ = some (.int .i64 a0_4) := (blk_cell BK326.out 4).trans rfl; have hfz18_0 := blk_frozen BK326.out 0; have hfz18_1 := blk_frozen BK326.out 1; have hfz18_2 := blk_frozen BK326.out 2; have hfz18_3 := blk_frozen BK326.out 3; have hfz18_4 := blk_frozen BK326.out 4; have p332 : 0 ≤ (x7_1 : Int) := of_decide_eq_true (by first | (with_reducible assumption) | assumption); have q332 : x7_1 < (l0_0.length : Int) := of_decide_eq_true (by first | (with_reducible assumption) | assumption); obtain ⟨ad332, A332_9, c332_9, e332, hx332_0, hx332_1, hx332_2, hx332_3, hx332_4, hx332_5, hx332_6, hx332_7, hx332_8, hx332_9, hx332_10, hl332_9, hi332_9⟩ := at_T84 HR0_0.out x7_1 p332 q332; obtain rfl : ad327 = ad332 := (by injection e332); replace hx332_0 := (HB.out.cell (World.block_lt_of_cell? w _ hx332_0)).trans hx332_0; replace hx332_1 := (HB.out.cell (World.block_lt_of_cell? w _ hx332_1)).trans hx332_1; replace hx332_2 := (HB.out.cell (World.block_lt_of_cell? w _ hx332_2)).trans hx332_2; replace hx332_3 := (HB.out.cell (World.block_lt_of_cell? w _ hx332_3)).trans hx332_3; replace hx332_4 := (HB.out.cell (World.block_lt_of_cell? w _ hx332_4)).trans hx332_4; replace hx332_5 := (HB.out.cell (World.block_lt_of_cell? w _ hx332_5)).trans hx332_5; replace hx332_6 := (HB.out.cell (World.block_lt_of_cell? w _ hx332_6)).trans hx332_6; replace hx332_7 := (HB.out.cell (World.block_lt_of_cell? w _ hx332_7)).trans hx332_7; replace hx332_8 := (HB.out.cell (World.block_lt_of_cell? w _ hx332_8)).trans hx332_8; replace hx332_9 := (HB.out.cell (World.block_lt_of_cell? w _ hx332_9)).trans hx332_9; replace hx332_10 := (HB.out.cell (World.block_lt_of_cell? w _ hx332_10)).trans hx332_10; have HR332_9 := Aside0.mk hi332_9; have HC332_9 := Aside0.mk hl332_9; clear hi332_9 hl332_9; replace p332 := eq_true p332; replace q332 := eq_true q332) | ((with_reducible refine gate_callee (f := 41) rfl ?_); refine goesL_ (some 29) rfl rfl Try.func41 (by kernel_rfl) rfl #[.agg #[.int .i64 ((rd_T84 l0_0 x7_1).f0), .int .i64 ((rd_T84 l0_0 x7_1).f1), .int .i64 ((rd_T84 l0_0 x7_1).f2), .int .i64 ((rd_T84 l0_0 x7_1).f3), .int .i64 ((rd_T84 l0_0 x7_1).f4), .int .i64 ((rd_T84 l0_0 x7_1).f5), .int .i64 ((rd_T84 l0_0 x7_1).f6), .int .i64 ((rd_T84 l0_0 x7_1).f7), .int .u32 ((rd_T84 l0_0 x7_1).f8), .slice A332_9 ((rd_T84 l0_0 x7_1).f9).length c332_9, .bool ((rd_T84 l0_0 x7_1).f10)]] rfl (by (try simp only [List.map_toArray, List.map_cons, List.map_nil]); first | done | rfl | (simp only [List.length_drop, List.length_take]; rfl)) ?_; (with_reducible refine (rushlightref13_Def.calls ((rd_T84 l0_0 x7_1).f0) ((rd_T84 l0_0 x7_1).f1) ((rd_T84 l0_0 x7_1).f2) ((rd_T84 l0_0 x7_1).f3) ((rd_T84 l0_0 x7_1).f4) ((rd_T84 l0_0 x7_1).f5) ((rd_T84 l0_0 x7_1).f6) ((rd_T84 l0_0 x7_1).f7) ((rd_T84 l0_0 x7_1).f8) _ _ ((rd_T84 l0_0 x7_1).f9) ((rd_T84 l0_0 x7_1).f10) t333 _ ?side1 ?side2 A13.out).mono ?_); (case side1 => repeat (first | exact (Kd.C_below HR332_9.out (by repeat (first | (with_reducible first | exact HB.out | apply below_alloc | apply pw_below_drewN | apply below_drew1 | refine below_set ?_ GE326.out) | exact HB.out))) | (with_reducible refine Kd.C_alloc ?_ _) | (with_reducible refine Kd.C_drewN ?_ _) | (with_reducible refine Kd.C_drew ?_))); (case side2 => exact HC332_9.out); rintro e w19 ⟨rfl, hb⟩; refine ⟨_, rfl, ?_⟩; have n0_ := Aside0.mk (Kd.R_below (by (with_reducible repeat (first | apply Kd.R_alloc | apply Kd.R_drewN | apply Kd.R_drew)); exact HO330.out) hb); have n1_ := Aside0.mk (blk_below (g := gb326) (o := .cells #[.slice (some ad327) l0_0.length c0_0, .int .i64 a0_1, .int .i64 a0_2, .int .i64 a0_3, .int .i64 a0_4] 45 (0, 0)) (by (with_reducible repeat (first | refine blk_drewN ?_ _ | refine blk_drew ?_ | refine blk_alloc ?_ _)); exact BK326.out) hb); have n2_ := Aside0.mk (below_step (by repeat (first | (with_reducible first | exact HB.out | apply below_alloc | apply pw_below_drewN | apply below_drew1 | refine below_set ?_ GE326.out) | exact HB.out)) hb); clear HO330; clear BK326; clear HB; have HO330 := n0_; have BK326 := n1_; have HB := n2_; clear n0_ n1_ n2_; (try clear hb); (try clear hb2); (try clear hk); (try clear hi)))
       go_ret
       exact ⟨by first | rfl | (simp [errW_none, errW_some] <;> rfl) | (simp [*, errW_none, errW_some] <;> rfl), by repeat (first | (with_reducible first | exact HB.out | apply below_alloc | apply pw_below_drewN | apply below_drew1 | refine below_set ?_ GE326.out) | exact HB.out)⟩
      ·
       rw [if_neg c14] at H
       have c14b0 : (t333 == a2) = false := beq_eq_false_iff_ne.mpr c14
       have c14b1 : (t333 != a2) = true := bne_iff_ne.mpr c14
       have H' := Aside0.mk H
       clear H
       have hcz20_0 : wr.cell? ⟨gb326, 0, none⟩ = some (.slice A0_0 l0_0.length c0_0) := (blk_cell BK326.out 0).trans rfl
       have hcz20_1 : wr.cell? ⟨gb326, 1, none⟩ = some (.int .i64 a0_1) := (blk_cell BK326.out 1).trans rfl
       have hcz20_2 : wr.cell? ⟨gb326, 2, none⟩ = some (.int .i64 a0_2) := (blk_cell BK326.out 2).trans rfl
       have hcz20_3 : wr.cell? ⟨gb326, 3, none⟩ = some (.int .i64 a0_3) := (blk_cell BK326.out 3).trans rfl
       have hcz20_4 : wr.cell? ⟨gb326, 4, none⟩ = some (.int .i64 a0_4) := (blk_cell BK326.out 4).trans rfl
       have hfz20_0 := blk_frozen BK326.out 0
       have hfz20_1 := blk_frozen BK326.out 1
       have hfz20_2 := blk_frozen BK326.out 2
       have hfz20_3 := blk_frozen BK326.out 3
       have hfz20_4 := blk_frozen BK326.out 4
       have p327 : 0 ≤ (x7_1 : Int) := of_decide_eq_true (by first | (with_reducible assumption) | assumption)
       have q327 : x7_1 < (l0_0.length : Int) := of_decide_eq_true (by first | (with_reducible assumption) | assumption)
       obtain ⟨ad327, A327_9, c327_9, e327, hx327_0, hx327_1, hx327_2, hx327_3, hx327_4, hx327_5, hx327_6, hx327_7, hx327_8, hx327_9, hx327_10, hl327_9, hi327_9⟩ := at_T84 HR0_0.out x7_1 p327 q327
       cases e327
       replace hx327_0 := (HB.out.cell (World.block_lt_of_cell? w _ hx327_0)).trans hx327_0
       replace hx327_1 := (HB.out.cell (World.block_lt_of_cell? w _ hx327_1)).trans hx327_1
       replace hx327_2 := (HB.out.cell (World.block_lt_of_cell? w _ hx327_2)).trans hx327_2
       replace hx327_3 := (HB.out.cell (World.block_lt_of_cell? w _ hx327_3)).trans hx327_3
       replace hx327_4 := (HB.out.cell (World.block_lt_of_cell? w _ hx327_4)).trans hx327_4
       replace hx327_5 := (HB.out.cell (World.block_lt_of_cell? w _ hx327_5)).trans hx327_5
       replace hx327_6 := (HB.out.cell (World.block_lt_of_cell? w _ hx327_6)).trans hx327_6
       replace hx327_7 := (HB.out.cell (World.block_lt_of_cell? w _ hx327_7)).trans hx327_7
       replace hx327_8 := (HB.out.cell (World.block_lt_of_cell? w _ hx327_8)).trans hx327_8
       replace hx327_9 := (HB.out.cell (World.block_lt_of_cell? w _ hx327_9)).trans hx327_9
       replace hx327_10 := (HB.out.cell (World.block_lt_of_cell? w _ hx327_10)).trans hx327_10
       have HR327_9 := Aside0.mk hi327_9
       have HC327_9 := Aside0.mk hl327_9
       clear hi327_9 hl327_9
       replace p327 := eq_true p327
       replace q327 := eq_true q327
       go_wp2_with (first | ((with_reducible refine gate_callee (f := 40) rfl ?_); refine goesL_ (some 21) rfl rfl Try.func40 (by kernel_rfl) rfl #[.agg #[.int .i64 ((rd_T84 l0_0 x7_1).f0), .int .i64 ((rd_T84 l0_0 x7_1).f1), .int .i64 ((rd_T84 l0_0 x7_1).f2), .int .i64 ((rd_T84 l0_0 x7_1).f3), .int .i64 ((rd_T84 l0_0 x7_1).f4), .int .i64 ((rd_T84 l0_0 x7_1).f5), .int .i64 ((rd_T84 l0_0 x7_1).f6), .int .i64 ((rd_T84 l0_0 x7_1).f7), .int .u32 ((rd_T84 l0_0 x7_1).f8), .slice A327_9 ((rd_T84 l0_0 x7_1).f9).length c327_9, .bool ((rd_T84 l0_0 x7_1).f10)]] rfl (by (try simp only [List.map_toArray, List.map_cons, List.map_nil]); first | done | rfl | (simp only [List.length_drop, List.length_take]; rfl)) ?_; (with_reducible refine (rushlightref13_Uses.calls k1 ((rd_T84 l0_0 x7_1).f0) ((rd_T84 l0_0 x7_1).f1) ((rd_T84 l0_0 x7_1).f2) ((rd_T84 l0_0 x7_1).f3) ((rd_T84 l0_0 x7_1).f4) ((rd_T84 l0_0 x7_1).f5) ((rd_T84 l0_0 x7_1).f6) ((rd_T84 l0_0 x7_1).f7) ((rd_T84 l0_0 x7_1).f8) _ _ ((rd_T84 l0_0 x7_1).f9) ((rd_T84 l0_0 x7_1).f10) t328 _ ?side1 ?side2 A7.out).mono ?_); (case side1 => repeat (first | exact (Kd.C_below HR327_9.out HB.out) | (with_reducible refine Kd.C_alloc ?_ _) | (with_reducible refine Kd.C_drewN ?_ _) | (with_reducible refine Kd.C_drew ?_))); (case side2 => exact HC327_9.out); rintro e w21 ⟨v329, rfl, ho0, hb⟩; refine ⟨_, rfl, ?_⟩; have n0_ := Aside0.mk (Kd.R_lower ho0 (below_size (by repeat (first | (with_reducible first | exact HB.out | apply below_alloc | apply pw_below_drewN | apply below_drew1 | refine below_set ?_ GE326.out) | exact HB.out)))); have n1_ := Aside0.mk (blk_below (g := gb326) (o := .cells #[.slice (some ad327) l0_0.length c0_0, .int .i64 a0_1, .int .i64 a0_2, .int .i64 a0_3, .int .i64 a0_4] 45 (0, 0)) (by (with_reducible repeat (first | refine blk_drewN ?_ _ | refine blk_drew ?_ | refine blk_alloc ?_ _)); exact BK326.out) hb); have n2_ := Aside0.mk (below_step (by repeat (first | (with_reducible first | exact HB.out | apply below_alloc | apply pw_below_drewN | apply below_drew1 | refine below_set ?_ GE326.out) | exact HB.out)) hb); clear BK326; clear HB; have HO330 := n0_; have BK326 := n1_; have HB := n2_; clear n0_ n1_ n2_; (try clear hb); (try clear hb2); (try clear hk); (try clear hi); (try clear ho0); obtain ⟨Ao22, co22, eo22⟩ := Kd.R_slice HO330.out; subst eo22) | (go_at_call 80; (with_reducible refine (rushlightref16_has.calls k1 _ _ t328 a2 false _ ?side1 ?side2 A8.out).mono ?_); (case side1 => repeat (first | exact (Kd.R_reads' HO330.out).2.2 | (with_reducible refine Kd.C_alloc ?_ _) | (with_reducible refine Kd.C_drewN ?_ _) | (with_reducible refine Kd.C_drew ?_))); (case side2 => exact (Kd.R_reads' HO330.out).2.1); rintro e w' ⟨rfl, ⟨nd, rfl⟩⟩; have hcz23_0 : w21.cell? ⟨gb326, 0, none⟩ = some (.slice (some ad327) l0_0.length c0_0) := (blk_cell BK326.out 0).trans rfl; have hcz23_1 : w21.cell? ⟨gb326, 1, none⟩ = some (.int .i64 a0_1) := (blk_cell BK326.out 1).trans rfl; have hcz23_2 : w21.cell? ⟨gb326, 2, none⟩ = some (.int .i64 a0_2) := (blk_cell BK326.out 2).trans rfl; have hcz23_3 : w21.cell? ⟨gb326, 3, none⟩ = some (.int .i64 a0_3) := (blk_cell BK326.out 3).trans rfl; have hcz23_4 : w21.cell? ⟨gb326, 4, none⟩ = some (.int .i64 a0_4) := (blk_cell BK326.out 4).trans rfl; have hfz23_0 := blk_frozen BK326.out 0; have hfz23_1 := blk_frozen BK326.out 1; have hfz23_2 := blk_frozen BK326.out 2; have hfz23_3 := blk_frozen BK326.out 3; have hfz23_4 := blk_frozen BK326.out 4; have p332 : 0 ≤ (x7_1 : Int) := of_decide_eq_true (by first | (with_reducible assumption) | assumption); have q332 : x7_1 < (l0_0.length : Int) := of_decide_eq_true (by first | (with_reducible assumption) | assumption); obtain ⟨ad332, A332_9, c332_9, e332, hx332_0, hx332_1, hx332_2, hx332_3, hx332_4, hx332_5, hx332_6, hx332_7, hx332_8, hx332_9, hx332_10, hl332_9, hi332_9⟩ := at_T84 HR0_0.out x7_1 p332 q332; obtain rfl : ad327 = ad332 := (by injection e332); replace hx332_0 := (HB.out.cell (World.block_lt_of_cell? w _ hx332_0)).trans hx332_0; replace hx332_1 := (HB.out.cell (World.block_lt_of_cell? w _ hx332_1)).trans hx332_1; replace hx332_2 := (HB.out.cell (World.block_lt_of_cell? w _ hx332_2)).trans hx332_2; replace hx332_3 := (HB.out.cell (World.block_lt_of_cell? w _ hx332_3)).trans hx332_3; replace hx332_4 := (HB.out.cell (World.block_lt_of_cell? w _ hx332_4)).trans hx332_4; replace hx332_5 := (HB.out.cell (World.block_lt_of_cell? w _ hx332_5)).trans hx332_5; replace hx332_6 := (HB.out.cell (World.block_lt_of_cell? w _ hx332_6)).trans hx332_6; replace hx332_7 := (HB.out.cell (World.block_lt_of_cell? w _ hx332_7)).trans hx332_7; replace hx332_8 := (HB.out.cell (World.block_lt_of_cell? w _ hx332_8)).trans hx332_8; replace hx332_9 := (HB.out.cell (World.block_lt_of_cell? w _ hx332_9)).trans hx332_9; replace hx332_10 := (HB.out.cell (World.block_lt_of_cell? w _ hx332_10)).trans hx332_10; have HR332_9 := Aside0.mk hi332_9; have HC332_9 := Aside0.mk hl332_9; clear hi332_9 hl332_9; replace p332 := eq_true p332; replace q332 := eq_true q332) | ((with_reducible refine gate_callee (f := 41) rfl ?_); refine goesL_ (some 29) rfl rfl Try.func41 (by kernel_rfl) rfl #[.agg #[.int .i64 ((rd_T84 l0_0 x7_1).f0), .int .i64 ((rd_T84 l0_0 x7_1).f1), .int .i64 ((rd_T84 l0_0 x7_1).f2), .int .i64 ((rd_T84 l0_0 x7_1).f3), .int .i64 ((rd_T84 l0_0 x7_1).f4), .int .i64 ((rd_T84 l0_0 x7_1).f5), .int .i64 ((rd_T84 l0_0 x7_1).f6), .int .i64 ((rd_T84 l0_0 x7_1).f7), .int .u32 ((rd_T84 l0_0 x7_1).f8), .slice A332_9 ((rd_T84 l0_0 x7_1).f9).length c332_9, .bool ((rd_T84 l0_0 x7_1).f10)]] rfl (by (try simp only [List.map_toArray, List.map_cons, List.map_nil]); first | done | rfl | (simp only [List.length_drop, List.length_take]; rfl)) ?_; (with_reducible refine (rushlightref13_Def.calls ((rd_T84 l0_0 x7_1).f0) ((rd_T84 l0_0 x7_1).f1) ((rd_T84 l0_0 x7_1).f2) ((rd_T84 l0_0 x7_1).f3) ((rd_T84 l0_0 x7_1).f4) ((rd_T84 l0_0 x7_1).f5) ((rd_T84 l0_0 x7_1).f6) ((rd_T84 l0_0 x7_1).f7) ((rd_T84 l0_0 x7_1).f8) _ _ ((rd_T84 l0_0 x7_1).f9) ((rd_T84 l0_0 x7_1).f10) t333 _ ?side1 ?side2 A13.out).mono ?_); (case side1 => repeat (first | exact (Kd.C_below HR332_9.out (by repeat (first | (with_reducible first | exact HB.out | apply below_alloc | apply pw_below_drewN | apply below_drew1 | refine below_set ?_ GE326.out) | exact HB.out))) | (with_reducible refine Kd.C_alloc ?_ _) | (with_reducible refine Kd.C_drewN ?_ _) | (with_reducible refine Kd.C_drew ?_))); (case side2 => exact HC332_9.out); rintro e w24 ⟨rfl, hb⟩; refine ⟨_, rfl, ?_⟩; have n0_ := Aside0.mk (Kd.R_below (by (with_reducible repeat (first | apply Kd.R_alloc | apply Kd.R_drewN | apply Kd.R_drew)); exact HO330.out) hb); have n1_ := Aside0.mk (blk_below (g := gb326) (o := .cells #[.slice (some ad327) l0_0.length c0_0, .int .i64 a0_1, .int .i64 a0_2, .int .i64 a0_3, .int .i64 a0_4] 45 (0, 0)) (by (with_reducible repeat (first | refine blk_drewN ?_ _ | refine blk_drew ?_ | refine blk_alloc ?_ _)); exact BK326.out) hb); have n2_ := Aside0.mk (below_step (by repeat (first | (with_reducible first | exact HB.out | apply below_alloc | apply pw_below_drewN | apply below_drew1 | refine below_set ?_ GE326.out) | exact HB.out)) hb); clear HO330; clear BK326; clear HB; have HO330 := n0_; have BK326 := n1_; have HB := n2_; clear n0_ n1_ n2_; (try clear hb); (try clear hb2); (try clear hk); (try clear hi)))
       go_roundg k1
       case measure => have := HK1.out; omega
       case rel => exact ⟨(wrap64 (x7_1 + 1)), (by first | rfl | (simp; done) | (simp [*]; done)), H', ⟨by have := HK1.out; omega⟩, ⟨by (with_reducible repeat (first | refine blk_drewN ?_ _ | refine blk_drew ?_ | refine blk_alloc ?_ _)); exact BK326.out⟩, ⟨by repeat (first | (with_reducible first | exact HB.out | apply below_alloc | apply pw_below_drewN | apply below_drew1 | refine below_set ?_ GE326.out) | exact HB.out)⟩⟩
    ·
     rw [if_neg c6] at H
     exact absurd H (by simp)
   ·
    rw [if_neg c5] at H
    have c5b0 : decide (x7_1 < (l0_0.length : Int)) = false := decide_eq_false c5
    clear c5
    by_cases c25 : a0_1 = 2
    ·
     rw [if_pos c25] at H
     have c25b0 : (a0_1 == 2) = true := beq_iff_eq.mpr c25
     have c25b1 : (a0_1 != 2) = false := bne_eq_false_iff_eq.mpr c25
     clear c25
     by_cases c26 : a0_2 = a2
     ·
      rw [if_pos c26] at H
      have c26b0 : (a0_2 == a2) = true := beq_iff_eq.mpr c26
      have c26b1 : (a0_2 != a2) = false := bne_eq_false_iff_eq.mpr c26
      clear c26
      obtain rfl := Option.some.inj H
      have hcz27_0 : wr.cell? ⟨gb326, 0, none⟩ = some (.slice A0_0 l0_0.length c0_0) := (blk_cell BK326.out 0).trans rfl
      have hcz27_1 : wr.cell? ⟨gb326, 1, none⟩ = some (.int .i64 a0_1) := (blk_cell BK326.out 1).trans rfl
      have hcz27_2 : wr.cell? ⟨gb326, 2, none⟩ = some (.int .i64 a0_2) := (blk_cell BK326.out 2).trans rfl
      have hcz27_3 : wr.cell? ⟨gb326, 3, none⟩ = some (.int .i64 a0_3) := (blk_cell BK326.out 3).trans rfl
      have hcz27_4 : wr.cell? ⟨gb326, 4, none⟩ = some (.int .i64 a0_4) := (blk_cell BK326.out 4).trans rfl
      have hfz27_0 := blk_frozen BK326.out 0
      have hfz27_1 := blk_frozen BK326.out 1
      have hfz27_2 := blk_frozen BK326.out 2
      have hfz27_3 := blk_frozen BK326.out 3
      have hfz27_4 := blk_frozen BK326.out 4
      go_wp2
      go_ret
      exact ⟨by first | rfl | (simp [errW_none, errW_some] <;> rfl) | (simp [*, errW_none, errW_some] <;> rfl), by repeat (first | (with_reducible first | exact HB.out | apply below_alloc | apply pw_below_drewN | apply below_drew1 | refine below_set ?_ GE326.out) | exact HB.out)⟩
     ·
      rw [if_neg c26] at H
      have c26b0 : (a0_2 == a2) = false := beq_eq_false_iff_ne.mpr c26
      have c26b1 : (a0_2 != a2) = true := bne_iff_ne.mpr c26
      obtain rfl := Option.some.inj H
      have hcz28_0 : wr.cell? ⟨gb326, 0, none⟩ = some (.slice A0_0 l0_0.length c0_0) := (blk_cell BK326.out 0).trans rfl
      have hcz28_1 : wr.cell? ⟨gb326, 1, none⟩ = some (.int .i64 a0_1) := (blk_cell BK326.out 1).trans rfl
      have hcz28_2 : wr.cell? ⟨gb326, 2, none⟩ = some (.int .i64 a0_2) := (blk_cell BK326.out 2).trans rfl
      have hcz28_3 : wr.cell? ⟨gb326, 3, none⟩ = some (.int .i64 a0_3) := (blk_cell BK326.out 3).trans rfl
      have hcz28_4 : wr.cell? ⟨gb326, 4, none⟩ = some (.int .i64 a0_4) := (blk_cell BK326.out 4).trans rfl
      have hfz28_0 := blk_frozen BK326.out 0
      have hfz28_1 := blk_frozen BK326.out 1
      have hfz28_2 := blk_frozen BK326.out 2
      have hfz28_3 := blk_frozen BK326.out 3
      have hfz28_4 := blk_frozen BK326.out 4
      go_wp2
      go_ret
      exact ⟨by first | rfl | (simp [errW_none, errW_some] <;> rfl) | (simp [*, errW_none, errW_some] <;> rfl), by repeat (first | (with_reducible first | exact HB.out | apply below_alloc | apply pw_below_drewN | apply below_drew1 | refine below_set ?_ GE326.out) | exact HB.out)⟩
    ·
     rw [if_neg c25] at H
     have c25b0 : (a0_1 == 2) = false := beq_eq_false_iff_ne.mpr c25
     have c25b1 : (a0_1 != 2) = true := bne_iff_ne.mpr c25
     by_cases c29 : a0_1 = 3
     ·
      rw [if_pos c29] at H
      have c29b0 : (a0_1 == 3) = true := beq_iff_eq.mpr c29
      have c29b1 : (a0_1 != 3) = false := bne_eq_false_iff_eq.mpr c29
      clear c29
      by_cases c30 : a0_2 = a2
      ·
       rw [if_pos c30] at H
       have c30b0 : (a0_2 == a2) = true := beq_iff_eq.mpr c30
       have c30b1 : (a0_2 != a2) = false := bne_eq_false_iff_eq.mpr c30
       clear c30
       obtain rfl := Option.some.inj H
       have hcz31_0 : wr.cell? ⟨gb326, 0, none⟩ = some (.slice A0_0 l0_0.length c0_0) := (blk_cell BK326.out 0).trans rfl
       have hcz31_1 : wr.cell? ⟨gb326, 1, none⟩ = some (.int .i64 a0_1) := (blk_cell BK326.out 1).trans rfl
       have hcz31_2 : wr.cell? ⟨gb326, 2, none⟩ = some (.int .i64 a0_2) := (blk_cell BK326.out 2).trans rfl
       have hcz31_3 : wr.cell? ⟨gb326, 3, none⟩ = some (.int .i64 a0_3) := (blk_cell BK326.out 3).trans rfl
       have hcz31_4 : wr.cell? ⟨gb326, 4, none⟩ = some (.int .i64 a0_4) := (blk_cell BK326.out 4).trans rfl
       have hfz31_0 := blk_frozen BK326.out 0
       have hfz31_1 := blk_frozen BK326.out 1
       have hfz31_2 := blk_frozen BK326.out 2
       have hfz31_3 := blk_frozen BK326.out 3
       have hfz31_4 := blk_frozen BK326.out 4
       go_wp2
       go_ret
       exact ⟨by first | rfl | (simp [errW_none, errW_some] <;> rfl) | (simp [*, errW_none, errW_some] <;> rfl), by repeat (first | (with_reducible first | exact HB.out | apply below_alloc | apply pw_below_drewN | apply below_drew1 | refine below_set ?_ GE326.out) | exact HB.out)⟩
      ·
       rw [if_neg c30] at H
       have c30b0 : (a0_2 == a2) = false := beq_eq_false_iff_ne.mpr c30
       have c30b1 : (a0_2 != a2) = true := bne_iff_ne.mpr c30
       obtain rfl := Option.some.inj H
       have hcz32_0 : wr.cell? ⟨gb326, 0, none⟩ = some (.slice A0_0 l0_0.length c0_0) := (blk_cell BK326.out 0).trans rfl
       have hcz32_1 : wr.cell? ⟨gb326, 1, none⟩ = some (.int .i64 a0_1) := (blk_cell BK326.out 1).trans rfl
       have hcz32_2 : wr.cell? ⟨gb326, 2, none⟩ = some (.int .i64 a0_2) := (blk_cell BK326.out 2).trans rfl
       have hcz32_3 : wr.cell? ⟨gb326, 3, none⟩ = some (.int .i64 a0_3) := (blk_cell BK326.out 3).trans rfl
       have hcz32_4 : wr.cell? ⟨gb326, 4, none⟩ = some (.int .i64 a0_4) := (blk_cell BK326.out 4).trans rfl
       have hfz32_0 := blk_frozen BK326.out 0
       have hfz32_1 := blk_frozen BK326.out 1
       have hfz32_2 := blk_frozen BK326.out 2
       have hfz32_3 := blk_frozen BK326.out 3
       have hfz32_4 := blk_frozen BK326.out 4
       go_wp2
       go_ret
       exact ⟨by first | rfl | (simp [errW_none, errW_some] <;> rfl) | (simp [*, errW_none, errW_some] <;> rfl), by repeat (first | (with_reducible first | exact HB.out | apply below_alloc | apply pw_below_drewN | apply below_drew1 | refine below_set ?_ GE326.out) | exact HB.out)⟩
     ·
      rw [if_neg c29] at H
      have c29b0 : (a0_1 == 3) = false := beq_eq_false_iff_ne.mpr c29
      have c29b1 : (a0_1 != 3) = true := bne_iff_ne.mpr c29
      obtain rfl := Option.some.inj H
      have hcz33_0 : wr.cell? ⟨gb326, 0, none⟩ = some (.slice A0_0 l0_0.length c0_0) := (blk_cell BK326.out 0).trans rfl
      have hcz33_1 : wr.cell? ⟨gb326, 1, none⟩ = some (.int .i64 a0_1) := (blk_cell BK326.out 1).trans rfl
      have hcz33_2 : wr.cell? ⟨gb326, 2, none⟩ = some (.int .i64 a0_2) := (blk_cell BK326.out 2).trans rfl
      have hcz33_3 : wr.cell? ⟨gb326, 3, none⟩ = some (.int .i64 a0_3) := (blk_cell BK326.out 3).trans rfl
      have hcz33_4 : wr.cell? ⟨gb326, 4, none⟩ = some (.int .i64 a0_4) := (blk_cell BK326.out 4).trans rfl
      have hfz33_0 := blk_frozen BK326.out 0
      have hfz33_1 := blk_frozen BK326.out 1
      have hfz33_2 := blk_frozen BK326.out 2
      have hfz33_3 := blk_frozen BK326.out 3
      have hfz33_4 := blk_frozen BK326.out 4
      go_wp2
      go_ret
      exact ⟨by first | rfl | (simp [errW_none, errW_some] <;> rfl) | (simp [*, errW_none, errW_some] <;> rfl), by repeat (first | (with_reducible first | exact HB.out | apply below_alloc | apply pw_below_drewN | apply below_drew1 | refine below_set ?_ GE326.out) | exact HB.out)⟩

/-! ### rushlightref16_Live: function 19 -/
mutual
def rushlightref16_Live.l0 : Nat → Int → List Bool → List Int → Int → ByteArray → Bool → Int → Int → List (S76) → List (S45) → Option (Bool)
 | 0, _, _, _, _, _, _, _, _, _, _ => none
 | k + 1, x3, x10, x11, x12, x335000, x335001, x335002, x335003, x335004, x335005 => if x12 < (x11.length : Int) then (if 0 ≤ x12 then (if 0 ≤ (rd x11 x12) then (if (rd x11 x12) < (x10.length : Int) then (if rdOf false x10 (rd x11 x12) = true then (rushlightref16_Live.l0 k x3 x10 x11 (wrap64 (x12 + 1)) x335000 x335001 x335002 x335003 x335004 x335005) else ((some (x10.set ((rd x11 x12) : Int).toNat true : List Bool)).bind fun y345 => (if (rd x11 x12) < (x335005.length : Int) then ((rushlightref16_within.f k ((rd_T45 x335005 (rd x11 x12)).f0) ((rd_T45 x335005 (rd x11 x12)).f1) ((rd_T45 x335005 (rd x11 x12)).f2) ((rd_T45 x335005 (rd x11 x12)).f3) ((rd_T45 x335005 (rd x11 x12)).f4) 0 x3).bind fun t347 => (if t347 = 1 then (some true) else (if t347 = 0 then ((rushlightref16_Outs.f k x335000 x335001 x335002 x335003 x335004 x335005 (rd x11 x12)).bind fun t348 => (rushlightref16_Live.l1 k x3 y345 x11 x12 t348 0 x335000 x335001 x335002 x335003 x335004 x335005)) else (rushlightref16_Live.l0 k x3 y345 x11 (wrap64 (x12 + 1)) x335000 x335001 x335002 x335003 x335004 x335005)))) else (none)))) else (none)) else (none)) else (none)) else (some false)
def rushlightref16_Live.l1 : Nat → Int → List Bool → List Int → Int → List Int → Int → ByteArray → Bool → Int → Int → List (S76) → List (S45) → Option (Bool)
 | 0, _, _, _, _, _, _, _, _, _, _, _, _ => none
 | k + 1, x3, x10, x11, x12, x15, x16, x335000, x335001, x335002, x335003, x335004, x335005 => if x16 < (x15.length : Int) then (if 0 ≤ x16 then (if x11.length < 17592186044416 then (rushlightref16_Live.l1 k x3 x10 (x11 ++ [rd x15 x16]) x12 x15 (wrap64 (x16 + 1)) x335000 x335001 x335002 x335003 x335004 x335005) else (none)) else (none)) else (rushlightref16_Live.l0 k x3 x10 x11 (wrap64 (x12 + 1)) x335000 x335001 x335002 x335003 x335004 x335005)
end
def rushlightref16_Live.f (k : Nat) (a0_0 : ByteArray) (a0_1 : Bool) (a0_2 : Int) (a0_3 : Int) (l0_4 : List (S76)) (l0_5 : List (S45)) (a1 : Int) (a2 : Int) (a3 : Int) : Option (Bool) := if 0 ≤ a1 then (if a1 < (l0_5.length : Int) then ((rushlightref16_within.f k ((rd_T45 l0_5 a1).f0) ((rd_T45 l0_5 a1).f1) ((rd_T45 l0_5 a1).f2) ((rd_T45 l0_5 a1).f3) ((rd_T45 l0_5 a1).f4) a2 a3).bind fun t336 => (if t336 > 0 then (some (t336 == 1)) else (if 0 ≤ (l0_5.length : Int) then (if ((l0_5.length : Int) : Int).toNat ≤ 281474976710656 then ((rushlightref16_Outs.f k a0_0 a0_1 a0_2 a0_3 l0_4 l0_5 a1).bind fun t340 => (rushlightref16_Live.l0 k a3 (List.replicate ((l0_5.length : Int) : Int).toNat false) t340 0 a0_0 a0_1 a0_2 a0_3 l0_4 l0_5)) else (none)) else (none)))) else (none)) else (none)
set_option maxHeartbeats 8000000 in
set_option maxRecDepth 100000 in
theorem rushlightref16_Live.calls (k : Nat) (a0_0 : ByteArray) (a0_1 : Bool) (a0_2 : Int) (a0_3 : Int) (A0_4 : Option Addr) (c0_4 : Nat) (l0_4 : List (S76)) (A0_5 : Option Addr) (c0_5 : Nat) (l0_5 : List (S45)) (a1 : Int) (a2 : Int) (a3 : Int) (r : Bool) (w : World) (hr0_4 : Kd.C k76 w A0_4 l0_4.length l0_4) (hc0_4 : l0_4.length ≤ c0_4) (hr0_5 : Kd.C k45 w A0_5 l0_5.length l0_5) (hc0_5 : l0_5.length ≤ c0_5) (h : rushlightref16_Live.f k a0_0 a0_1 a0_2 a0_3 l0_4 l0_5 a1 a2 a3 = some r) :
  Calls Try.prog 19 #[.agg #[.string a0_0, .bool a0_1, .int .i64 a0_2, .int .i64 a0_3, .slice A0_4 l0_4.length c0_4, .slice A0_5 l0_5.length c0_5], .int .i64 a1, .int .i64 a2, .int .i64 a3] w fun e w' => e = .returned (.bool r) ∧ Below w.heap.size w w' := by
 have hu31 := Try.underlying31
 have hu45 := Try.underlying45
 have HR0_4 := Aside0.mk hr0_4
 have HC0_4 := Aside0.mk hc0_4
 clear hr0_4 hc0_4
 have HR0_5 := Aside0.mk hr0_5
 have HC0_5 := Aside0.mk hc0_5
 clear hr0_5 hc0_5
 have HB := Aside0.mk (Below.refl w.heap.size w)
 have H : (if 0 ≤ a1 then (if a1 < (l0_5.length : Int) then ((rushlightref16_within.f k ((rd_T45 l0_5 a1).f0) ((rd_T45 l0_5 a1).f1) ((rd_T45 l0_5 a1).f2) ((rd_T45 l0_5 a1).f3) ((rd_T45 l0_5 a1).f4) a2 a3).bind fun t336 => (if t336 > 0 then (some (t336 == 1)) else (if 0 ≤ (l0_5.length : Int) then (if ((l0_5.length : Int) : Int).toNat ≤ 281474976710656 then ((rushlightref16_Outs.f k a0_0 a0_1 a0_2 a0_3 l0_4 l0_5 a1).bind fun t340 => (rushlightref16_Live.l0 k a3 (List.replicate ((l0_5.length : Int) : Int).toNat false) t340 0 a0_0 a0_1 a0_2 a0_3 l0_4 l0_5)) else (none)) else (none)))) else (none)) else (none)) = some r := h
 clear h
 by_cases c5 : 0 ≤ a1
 ·
  rw [if_pos c5] at H
  have c5b0 : decide (0 ≤ a1) = true := decide_eq_true c5
  clear c5
  by_cases c6 : a1 < (l0_5.length : Int)
  ·
   rw [if_pos c6] at H
   have c6b0 : decide (a1 < (l0_5.length : Int)) = true := decide_eq_true c6
   clear c6
   replace H := Option.bind_eq_some_iff.mp H
   obtain ⟨t336, A70, H⟩ := H
   replace H : (if t336 > 0 then (some (t336 == 1)) else (if 0 ≤ (l0_5.length : Int) then (if ((l0_5.length : Int) : Int).toNat ≤ 281474976710656 then ((rushlightref16_Outs.f k a0_0 a0_1 a0_2 a0_3 l0_4 l0_5 a1).bind fun t340 => (rushlightref16_Live.l0 k a3 (List.replicate ((l0_5.length : Int) : Int).toNat false) t340 0 a0_0 a0_1 a0_2 a0_3 l0_4 l0_5)) else (none)) else (none))) = some r := H
   have A7 := Aside0.mk A70
   clear A70
   by_cases c8 : t336 > 0
   ·
    rw [if_pos c8] at H
    have c8b0 : decide (0 < t336) = true := decide_eq_true c8
    clear c8
    obtain rfl := Option.some.inj H
    go_enter Try.func19, Try.ntmps19
    go_wp2_with (first | ((with_reducible refine gate_dst (N := 4) rfl ?_); refine box_event ?hg (N := 4) ?hd (cs := #[.string a0_0, .bool a0_1, .int .i64 a0_2, .int .i64 a0_3, .slice A0_4 l0_4.length c0_4, .slice A0_5 l0_5.length c0_5]) (t := 31) ?hr ?_; (case hd => rfl); (case hg => rfl); (case hr => first | (go_simp; done) | (go_simp; rfl)); intro gb334 hg w9 hbox hb; have n0_ := Aside0.mk (below_step (by repeat (first | (with_reducible first | exact HB.out | apply below_alloc | apply pw_below_drewN | apply below_drew1) | exact HB.out)) hb); have n1_ := Aside0.mk (hbox); have n2_ := Aside0.mk ((by rw [hg]; exact (below_size (by repeat (first | (with_reducible first | exact HB.out | apply below_alloc | apply pw_below_drewN | apply below_drew1) | exact HB.out))) : w.heap.size ≤ gb334)); have n3_ := Aside0.mk ((by rw [hg]; exact (below_size (by repeat (first | (with_reducible first | exact HB.out | apply below_alloc | apply pw_below_drewN | apply below_drew1) | exact HB.out))) : w.heap.size ≤ gb334)); clear HB; have HB := n0_; have BK334 := n1_; have GW334 := n2_; have GE334 := n3_; clear n0_ n1_ n2_ n3_; clear hb hbox hg; have hcz10_0 : w9.cell? ⟨gb334, 0, none⟩ = some (.string a0_0) := (blk_cell BK334.out 0).trans rfl; have hcz10_1 : w9.cell? ⟨gb334, 1, none⟩ = some (.bool a0_1) := (blk_cell BK334.out 1).trans rfl; have hcz10_2 : w9.cell? ⟨gb334, 2, none⟩ = some (.int .i64 a0_2) := (blk_cell BK334.out 2).trans rfl; have hcz10_3 : w9.cell? ⟨gb334, 3, none⟩ = some (.int .i64 a0_3) := (blk_cell BK334.out 3).trans rfl; have hcz10_4 : w9.cell? ⟨gb334, 4, none⟩ = some (.slice A0_4 l0_4.length c0_4) := (blk_cell BK334.out 4).trans rfl; have hcz10_5 : w9.cell? ⟨gb334, 5, none⟩ = some (.slice A0_5 l0_5.length c0_5) := (blk_cell BK334.out 5).trans rfl; have hfz10_0 := blk_frozen BK334.out 0; have hfz10_1 := blk_frozen BK334.out 1; have hfz10_2 := blk_frozen BK334.out 2; have hfz10_3 := blk_frozen BK334.out 3; have hfz10_4 := blk_frozen BK334.out 4; have hfz10_5 := blk_frozen BK334.out 5; have p335 : 0 ≤ (a1 : Int) := of_decide_eq_true (by first | (with_reducible assumption) | assumption); have q335 : a1 < (l0_5.length : Int) := of_decide_eq_true (by first | (with_reducible assumption) | assumption); obtain ⟨ad335, A335_0, c335_0, e335, hx335_0, hx335_1, hx335_2, hx335_3, hx335_4, hl335_0, hi335_0⟩ := at_T45 HR0_5.out a1 p335 q335; cases e335; replace hx335_0 := (HB.out.cell (World.block_lt_of_cell? w _ hx335_0)).trans hx335_0; replace hx335_1 := (HB.out.cell (World.block_lt_of_cell? w _ hx335_1)).trans hx335_1; replace hx335_2 := (HB.out.cell (World.block_lt_of_cell? w _ hx335_2)).trans hx335_2; replace hx335_3 := (HB.out.cell (World.block_lt_of_cell? w _ hx335_3)).trans hx335_3; replace hx335_4 := (HB.out.cell (World.block_lt_of_cell? w _ hx335_4)).trans hx335_4; have HR335_0 := Aside0.mk hi335_0; have HC335_0 := Aside0.mk hl335_0; clear hi335_0 hl335_0; replace p335 := eq_true p335; replace q335 := eq_true q335) | ((with_reducible refine gate_callee (f := 51) rfl ?_); refine goesL_ (some 24) rfl rfl Try.func51 (by kernel_rfl) rfl #[.agg #[.slice A335_0 ((rd_T45 l0_5 a1).f0).length c335_0, .int .i64 ((rd_T45 l0_5 a1).f1), .int .i64 ((rd_T45 l0_5 a1).f2), .int .i64 ((rd_T45 l0_5 a1).f3), .int .i64 ((rd_T45 l0_5 a1).f4)], .int .i64 a2, .int .i64 a3] rfl (by (try simp only [List.map_toArray, List.map_cons, List.map_nil]); first | done | rfl | (simp only [List.length_drop, List.length_take]; rfl)) ?_; (with_reducible refine (rushlightref16_within.calls k _ _ ((rd_T45 l0_5 a1).f0) ((rd_T45 l0_5 a1).f1) ((rd_T45 l0_5 a1).f2) ((rd_T45 l0_5 a1).f3) ((rd_T45 l0_5 a1).f4) a2 a3 t336 _ ?side1 ?side2 A7.out).mono ?_); (case side1 => repeat (first | exact (Kd.C_below HR335_0.out HB.out) | (with_reducible refine Kd.C_alloc ?_ _) | (with_reducible refine Kd.C_drewN ?_ _) | (with_reducible refine Kd.C_drew ?_))); (case side2 => exact HC335_0.out); rintro e w11 ⟨rfl, hb⟩; refine ⟨_, rfl, ?_⟩; have n0_ := Aside0.mk (blk_below (g := gb334) (o := .cells #[.string a0_0, .bool a0_1, .int .i64 a0_2, .int .i64 a0_3, .slice A0_4 l0_4.length c0_4, .slice (some ad335) l0_5.length c0_5] 31 (0, 0)) (by (with_reducible repeat (first | refine blk_drewN ?_ _ | refine blk_drew ?_ | refine blk_alloc ?_ _)); exact BK334.out) hb); have n1_ := Aside0.mk (below_step (by repeat (first | (with_reducible first | exact HB.out | apply below_alloc | apply pw_below_drewN | apply below_drew1 | refine below_set ?_ GE334.out) | exact HB.out)) hb); clear BK334; clear HB; have BK334 := n0_; have HB := n1_; clear n0_ n1_; (try clear hb); (try clear hb2); (try clear hk); (try clear hi)))
    go_ret
    exact ⟨by first | rfl | (simp [errW_none, errW_some] <;> rfl) | (simp [*, errW_none, errW_some] <;> rfl), by repeat (first | (with_reducible first | exact HB.out | apply below_alloc | apply pw_below_drewN | apply below_drew1 | refine below_set ?_ GE334.out) | exact HB.out)⟩
   ·
    rw [if_neg c8] at H
    have c8b0 : decide (0 < t336) = false := decide_eq_false c8
    clear c8
    by_cases c12 : 0 ≤ (l0_5.length : Int)
    ·
     rw [if_pos c12] at H
     have c12b0 := eq_true c12
     have c12b1 : decide (0 ≤ (l0_5.length : Int)) = true := decide_eq_true c12
     clear c12
     by_cases c13 : ((l0_5.length : Int) : Int).toNat ≤ 281474976710656
     ·
      rw [if_pos c13] at H
      have c13b0 := eq_true c13
      have c13b1 : decide (((l0_5.length : Int) : Int).toNat ≤ 281474976710656) = true := decide_eq_true c13
      clear c13
      obtain ⟨y337, hy337⟩ : ∃ y_ : List Bool, y_ = (List.replicate ((l0_5.length : Int) : Int).toNat false) := ⟨_, rfl⟩
      replace H : ((rushlightref16_Outs.f k a0_0 a0_1 a0_2 a0_3 l0_4 l0_5 a1).bind fun t340 => (rushlightref16_Live.l0 k a3 y337 t340 0 a0_0 a0_1 a0_2 a0_3 l0_4 l0_5)) = some r := by first | (rw [hy337]; with_reducible exact H) | (have H2_ := (Option.bind_some _ _).symm.trans H; rw [hy337]; with_reducible exact H2_) | (have H2_ := (Option.bind_some _ _).symm.trans H; with_reducible exact H2_) | with_reducible exact H | (rw [hy337]; exact H) | exact H
      have Ny337 := Aside0.mk hy337
      clear hy337
      replace H := Option.bind_eq_some_iff.mp H
      obtain ⟨t340, A140, H⟩ := H
      replace H : (rushlightref16_Live.l0 k a3 y337 t340 0 a0_0 a0_1 a0_2 a0_3 l0_4 l0_5) = some r := H
      have A14 := Aside0.mk A140
      clear A140
      have H' := Aside0.mk H
      clear H
      go_enter Try.func19, Try.ntmps19
      go_wp2_with (first | ((with_reducible refine gate_dst (N := 4) rfl ?_); refine box_event ?hg (N := 4) ?hd (cs := #[.string a0_0, .bool a0_1, .int .i64 a0_2, .int .i64 a0_3, .slice A0_4 l0_4.length c0_4, .slice A0_5 l0_5.length c0_5]) (t := 31) ?hr ?_; (case hd => rfl); (case hg => rfl); (case hr => first | (go_simp; done) | (go_simp; rfl)); intro gb334 hg w15 hbox hb; have n0_ := Aside0.mk (below_step (by repeat (first | (with_reducible first | exact HB.out | apply below_alloc | apply pw_below_drewN | apply below_drew1) | exact HB.out)) hb); have n1_ := Aside0.mk (hbox); have n2_ := Aside0.mk ((by rw [hg]; exact (below_size (by repeat (first | (with_reducible first | exact HB.out | apply below_alloc | apply pw_below_drewN | apply below_drew1) | exact HB.out))) : w.heap.size ≤ gb334)); have n3_ := Aside0.mk ((by rw [hg]; exact (below_size (by repeat (first | (with_reducible first | exact HB.out | apply below_alloc | apply pw_below_drewN | apply below_drew1) | exact HB.out))) : w.heap.size ≤ gb334)); clear HB; have HB := n0_; have BK334 := n1_; have GW334 := n2_; have GE334 := n3_; clear n0_ n1_ n2_ n3_; clear hb hbox hg; have hcz16_0 : w15.cell? ⟨gb334, 0, none⟩ = some (.string a0_0) := (blk_cell BK334.out 0).trans rfl; have hcz16_1 : w15.cell? ⟨gb334, 1, none⟩ = some (.bool a0_1) := (blk_cell BK334.out 1).trans rfl; have hcz16_2 : w15.cell? ⟨gb334, 2, none⟩ = some (.int .i64 a0_2) := (blk_cell BK334.out 2).trans rfl; have hcz16_3 : w15.cell? ⟨gb334, 3, none⟩ = some (.int .i64 a0_3) := (blk_cell BK334.out 3).trans rfl; have hcz16_4 : w15.cell? ⟨gb334, 4, none⟩ = some (.slice A0_4 l0_4.length c0_4) := (blk_cell BK334.out 4).trans rfl; have hcz16_5 : w15.cell? ⟨gb334, 5, none⟩ = some (.slice A0_5 l0_5.length c0_5) := (blk_cell BK334.out 5).trans rfl; have hfz16_0 := blk_frozen BK334.out 0; have hfz16_1 := blk_frozen BK334.out 1; have hfz16_2 := blk_frozen BK334.out 2; have hfz16_3 := blk_frozen BK334.out 3; have hfz16_4 := blk_frozen BK334.out 4; have hfz16_5 := blk_frozen BK334.out 5; have p335 : 0 ≤ (a1 : Int) := of_decide_eq_true (by first | (with_reducible assumption) | assumption); have q335 : a1 < (l0_5.length : Int) := of_decide_eq_true (by first | (with_reducible assumption) | assumption); obtain ⟨ad335, A335_0, c335_0, e335, hx335_0, hx335_1, hx335_2, hx335_3, hx335_4, hl335_0, hi335_0⟩ := at_T45 HR0_5.out a1 p335 q335; cases e335; replace hx335_0 := (HB.out.cell (World.block_lt_of_cell? w _ hx335_0)).trans hx335_0; replace hx335_1 := (HB.out.cell (World.block_lt_of_cell? w _ hx335_1)).trans hx335_1; replace hx335_2 := (HB.out.cell (World.block_lt_of_cell? w _ hx335_2)).trans hx335_2; replace hx335_3 := (HB.out.cell (World.block_lt_of_cell? w _ hx335_3)).trans hx335_3; replace hx335_4 := (HB.out.cell (World.block_lt_of_cell? w _ hx335_4)).trans hx335_4; have HR335_0 := Aside0.mk hi335_0; have HC335_0 := Aside0.mk hl335_0; clear hi335_0 hl335_0; replace p335 := eq_true p335; replace q335 := eq_true q335) | ((with_reducible refine gate_callee (f := 51) rfl ?_); refine goesL_ (some 24) rfl rfl Try.func51 (by kernel_rfl) rfl #[.agg #[.slice A335_0 ((rd_T45 l0_5 a1).f0).length c335_0, .int .i64 ((rd_T45 l0_5 a1).f1), .int .i64 ((rd_T45 l0_5 a1).f2), .int .i64 ((rd_T45 l0_5 a1).f3), .int .i64 ((rd_T45 l0_5 a1).f4)], .int .i64 a2, .int .i64 a3] rfl (by (try simp only [List.map_toArray, List.map_cons, List.map_nil]); first | done | rfl | (simp only [List.length_drop, List.length_take]; rfl)) ?_; (with_reducible refine (rushlightref16_within.calls k _ _ ((rd_T45 l0_5 a1).f0) ((rd_T45 l0_5 a1).f1) ((rd_T45 l0_5 a1).f2) ((rd_T45 l0_5 a1).f3) ((rd_T45 l0_5 a1).f4) a2 a3 t336 _ ?side1 ?side2 A7.out).mono ?_); (case side1 => repeat (first | exact (Kd.C_below HR335_0.out HB.out) | (with_reducible refine Kd.C_alloc ?_ _) | (with_reducible refine Kd.C_drewN ?_ _) | (with_reducible refine Kd.C_drew ?_))); (case side2 => exact HC335_0.out); rintro e w17 ⟨rfl, hb⟩; refine ⟨_, rfl, ?_⟩; have n0_ := Aside0.mk (blk_below (g := gb334) (o := .cells #[.string a0_0, .bool a0_1, .int .i64 a0_2, .int .i64 a0_3, .slice A0_4 l0_4.length c0_4, .slice (some ad335) l0_5.length c0_5] 31 (0, 0)) (by (with_reducible repeat (first | refine blk_drewN ?_ _ | refine blk_drew ?_ | refine blk_alloc ?_ _)); exact BK334.out) hb); have n1_ := Aside0.mk (below_step (by repeat (first | (with_reducible first | exact HB.out | apply below_alloc | apply pw_below_drewN | apply below_drew1 | refine below_set ?_ GE334.out) | exact HB.out)) hb); clear BK334; clear HB; have BK334 := n0_; have HB := n1_; clear n0_ n1_; (try clear hb); (try clear hb2); (try clear hk); (try clear hi); have hcz18_0 : w17.cell? ⟨gb334, 0, none⟩ = some (.string a0_0) := (blk_cell BK334.out 0).trans rfl; have hcz18_1 : w17.cell? ⟨gb334, 1, none⟩ = some (.bool a0_1) := (blk_cell BK334.out 1).trans rfl; have hcz18_2 : w17.cell? ⟨gb334, 2, none⟩ = some (.int .i64 a0_2) := (blk_cell BK334.out 2).trans rfl; have hcz18_3 : w17.cell? ⟨gb334, 3, none⟩ = some (.int .i64 a0_3) := (blk_cell BK334.out 3).trans rfl; have hcz18_4 : w17.cell? ⟨gb334, 4, none⟩ = some (.slice A0_4 l0_4.length c0_4) := (blk_cell BK334.out 4).trans rfl; have hcz18_5 : w17.cell? ⟨gb334, 5, none⟩ = some (.slice (some ad335) l0_5.length c0_5) := (blk_cell BK334.out 5).trans rfl; have hfz18_0 := blk_frozen BK334.out 0; have hfz18_1 := blk_frozen BK334.out 1; have hfz18_2 := blk_frozen BK334.out 2; have hfz18_3 := blk_frozen BK334.out 3; have hfz18_4 := blk_frozen BK334.out 4; have hfz18_5 := blk_frozen BK334.out 5) | ((with_reducible refine gate_dst (N := 32) rfl ?_); refine Kd.R_make Kd.bool _ 4 rfl (N := 32) rfl 41 _ _ rfl (l0_5.length : Int) rfl rfl Try.underlying41 (.bool false) 1 info4 rfl (by decide) (by omega) false (ok := fun _ => True) (okp := fun _ => True) rfl (fun _ hk => hk) trivial (of_decide_eq_true (by first | (with_reducible assumption) | assumption)) (Nat.le_trans (Nat.mul_le_mul_right _ (of_decide_eq_true (by first | (with_reducible assumption) | assumption) : (l0_5.length : Int).toNat ≤ 281474976710656)) (by omega)) (Below.refl _ _) (Nat.le_refl _) ?_; intro v338 w19 ho20 hb hg_ hnew_; clear hg_ hnew_; (first | rw [← Ny337.out] at ho20 | (simp only [Int.reduceToNat] at ho20; rw [← Ny337.out] at ho20)); have n0_ := Aside0.mk (Kd.R_lower ho20 (below_size (by repeat (first | (with_reducible first | exact HB.out | apply below_alloc | apply pw_below_drewN | apply below_drew1 | refine below_set ?_ GE334.out) | exact HB.out)))); have n1_ := Aside0.mk (blk_below (g := gb334) (o := .cells #[.string a0_0, .bool a0_1, .int .i64 a0_2, .int .i64 a0_3, .slice A0_4 l0_4.length c0_4, .slice (some ad335) l0_5.length c0_5] 31 (0, 0)) (by (with_reducible repeat (first | refine blk_drewN ?_ _ | refine blk_drew ?_ | refine blk_alloc ?_ _)); exact BK334.out) hb); have n2_ := Aside0.mk (below_step (by repeat (first | (with_reducible first | exact HB.out | apply below_alloc | apply pw_below_drewN | apply below_drew1 | refine below_set ?_ GE334.out) | exact HB.out)) hb); clear BK334; clear HB; have HO339 := n0_; have BK334 := n1_; have HB := n2_; clear n0_ n1_ n2_; clear hb ho20; have hcz21_0 : w19.cell? ⟨gb334, 0, none⟩ = some (.string a0_0) := (blk_cell BK334.out 0).trans rfl; have hcz21_1 : w19.cell? ⟨gb334, 1, none⟩ = some (.bool a0_1) := (blk_cell BK334.out 1).trans rfl; have hcz21_2 : w19.cell? ⟨gb334, 2, none⟩ = some (.int .i64 a0_2) := (blk_cell BK334.out 2).trans rfl; have hcz21_3 : w19.cell? ⟨gb334, 3, none⟩ = some (.int .i64 a0_3) := (blk_cell BK334.out 3).trans rfl; have hcz21_4 : w19.cell? ⟨gb334, 4, none⟩ = some (.slice A0_4 l0_4.length c0_4) := (blk_cell BK334.out 4).trans rfl; have hcz21_5 : w19.cell? ⟨gb334, 5, none⟩ = some (.slice (some ad335) l0_5.length c0_5) := (blk_cell BK334.out 5).trans rfl; have hfz21_0 := blk_frozen BK334.out 0; have hfz21_1 := blk_frozen BK334.out 1; have hfz21_2 := blk_frozen BK334.out 2; have hfz21_3 := blk_frozen BK334.out 3; have hfz21_4 := blk_frozen BK334.out 4; have hfz21_5 := blk_frozen BK334.out 5) | ((with_reducible refine gate_callee (f := 23) rfl ?_); refine goesL_ (some 35) rfl rfl Try.func23 (by kernel_rfl) rfl #[.agg #[.string a0_0, .bool a0_1, .int .i64 a0_2, .int .i64 a0_3, .slice A0_4 l0_4.length c0_4, .slice (some ad335) l0_5.length c0_5], .int .i64 a1] rfl (by (try simp only [List.map_toArray, List.map_cons, List.map_nil]); first | done | rfl | (simp only [List.length_drop, List.length_take]; rfl)) ?_; (with_reducible refine (rushlightref16_Outs.calls k a0_0 a0_1 a0_2 a0_3 _ _ l0_4 _ _ l0_5 a1 t340 _ ?side1 ?side2 ?side3 ?side4 A14.out).mono ?_); (case side1 => repeat (first | exact (Kd.C_below HR0_4.out HB.out) | (with_reducible refine Kd.C_alloc ?_ _) | (with_reducible refine Kd.C_drewN ?_ _) | (with_reducible refine Kd.C_drew ?_))); (case side2 => exact HC0_4.out); (case side3 => repeat (first | exact (Kd.C_below HR0_5.out HB.out) | (with_reducible refine Kd.C_alloc ?_ _) | (with_reducible refine Kd.C_drewN ?_ _) | (with_reducible refine Kd.C_drew ?_))); (case side4 => exact HC0_5.out); rintro e w22 ⟨v341, rfl, ho0, hb⟩; refine ⟨_, rfl, ?_⟩; have n0_ := Aside0.mk (Kd.R_below (by (with_reducible repeat (first | apply Kd.R_alloc | apply Kd.R_drewN | apply Kd.R_drew)); exact HO339.out) hb); have n1_ := Aside0.mk (Kd.R_lower ho0 (below_size (by repeat (first | (with_reducible first | exact HB.out | apply below_alloc | apply pw_below_drewN | apply below_drew1 | refine below_set ?_ GE334.out) | exact HB.out)))); have n2_ := Aside0.mk (blk_below (g := gb334) (o := .cells #[.string a0_0, .bool a0_1, .int .i64 a0_2, .int .i64 a0_3, .slice A0_4 l0_4.length c0_4, .slice (some ad335) l0_5.length c0_5] 31 (0, 0)) (by (with_reducible repeat (first | refine blk_drewN ?_ _ | refine blk_drew ?_ | refine blk_alloc ?_ _)); exact BK334.out) hb); have n3_ := Aside0.mk (below_step (by repeat (first | (with_reducible first | exact HB.out | apply below_alloc | apply pw_below_drewN | apply below_drew1 | refine below_set ?_ GE334.out) | exact HB.out)) hb); clear HO339; clear BK334; clear HB; have HO339 := n0_; have HO342 := n1_; have BK334 := n2_; have HB := n3_; clear n0_ n1_ n2_ n3_; (try clear hb); (try clear hb2); (try clear hk); (try clear hi); (try clear ho0)))
      go_loopg [11, 12] k (fun kq v11 v12 w' => ∃ (x10_1 : List Bool) (x11_1 : List Int) (x12_1 : Int), v12 = .int .i64 x12_1 ∧ Aside0 (rushlightref16_Live.l0 kq a3 x10_1 x11_1 x12_1 a0_0 a0_1 a0_2 a0_3 l0_4 l0_5 = some r) ∧ Aside0 (kq ≤ k) ∧ Aside0 (Kd.R Kd.bool 4 w' w.heap.size (fun _ => True) v338 x10_1) ∧ Aside0 (Kd.R (Kd.int .i64) 3 w' w.heap.size (fun _ => True) v11 x11_1) ∧ Aside0 (w'.heap[gb334]? = some (.cells #[.string a0_0, .bool a0_1, .int .i64 a0_2, .int .i64 a0_3, (.slice A0_4 l0_4.length c0_4), (.slice (some ad335) l0_5.length c0_5)] 31 (0, 0))) ∧ Aside0 (Below w.heap.size w w'))
      case atStart => exact ⟨(y337), (t340), (0), (by first | rfl | (simp; done) | (simp [*]; done)), H', ⟨Nat.le_refl _⟩, ⟨by (with_reducible repeat (first | apply Kd.R_alloc | apply Kd.R_drewN | apply Kd.R_drew)); exact HO339.out⟩, ⟨by (with_reducible repeat (first | apply Kd.R_alloc | apply Kd.R_drewN | apply Kd.R_drew)); exact HO342.out⟩, ⟨by (with_reducible repeat (first | refine blk_drewN ?_ _ | refine blk_drew ?_ | refine blk_alloc ?_ _)); exact BK334.out⟩, ⟨by repeat (first | (with_reducible first | exact HB.out | apply below_alloc | apply pw_below_drewN | apply below_drew1 | refine below_set ?_ GE334.out) | exact HB.out)⟩⟩
      case round =>
       clear H'
       obtain ⟨x10_1, x11_1, x12_1, rfl, HA, HK1, HO_10, HO_11, BK334, HB⟩ := hrel
       cases gk with
       | zero => exact absurd HA.out (by simp [rushlightref16_Live.l0])
       | succ k1 =>
        have H := HA.out
        clear HA
        simp only [rushlightref16_Live.l0] at H
        by_cases c23 : x12_1 < (x11_1.length : Int)
        ·
         rw [if_pos c23] at H
         have c23b0 : decide (x12_1 < (x11_1.length : Int)) = true := decide_eq_true c23
         clear c23
         by_cases c24 : 0 ≤ x12_1
         ·
          rw [if_pos c24] at H
          have c24b0 : decide (0 ≤ x12_1) = true := decide_eq_true c24
          clear c24
          by_cases c25 : 0 ≤ (rd x11_1 x12_1)
          ·
           rw [if_pos c25] at H
           have c25b0 : decide (0 ≤ (rd x11_1 x12_1)) = true := decide_eq_true c25
           clear c25
           by_cases c26 : (rd x11_1 x12_1) < (x10_1.length : Int)
           ·
            rw [if_pos c26] at H
            have c26b0 : decide ((rd x11_1 x12_1) < (x10_1.length : Int)) = true := decide_eq_true c26
            clear c26
            obtain ⟨bq27, hbq27⟩ : ∃ b_ : Bool, b_ = (rdOf false x10_1 (rd x11_1 x12_1)) := ⟨_, rfl⟩
            replace H : (if bq27 = true then (rushlightref16_Live.l0 k1 a3 x10_1 x11_1 (wrap64 (x12_1 + 1)) a0_0 a0_1 a0_2 a0_3 l0_4 l0_5) else ((some (x10_1.set ((rd x11_1 x12_1) : Int).toNat true : List Bool)).bind fun y345 => (if (rd x11_1 x12_1) < (l0_5.length : Int) then ((rushlightref16_within.f k1 ((rd_T45 l0_5 (rd x11_1 x12_1)).f0) ((rd_T45 l0_5 (rd x11_1 x12_1)).f1) ((rd_T45 l0_5 (rd x11_1 x12_1)).f2) ((rd_T45 l0_5 (rd x11_1 x12_1)).f3) ((rd_T45 l0_5 (rd x11_1 x12_1)).f4) 0 a3).bind fun t347 => (if t347 = 1 then (some true) else (if t347 = 0 then ((rushlightref16_Outs.f k1 a0_0 a0_1 a0_2 a0_3 l0_4 l0_5 (rd x11_1 x12_1)).bind fun t348 => (rushlightref16_Live.l1 k1 a3 y345 x11_1 x12_1 t348 0 a0_0 a0_1 a0_2 a0_3 l0_4 l0_5)) else (rushlightref16_Live.l0 k1 a3 y345 x11_1 (wrap64 (x12_1 + 1)) a0_0 a0_1 a0_2 a0_3 l0_4 l0_5)))) else (none)))) = some r := by rw [← hbq27] at H; exact H
            have Nbq27 := Aside0.mk hbq27
            clear hbq27
            by_cases c28 : bq27 = true
            ·
             subst c28
             have H1 : (rushlightref16_Live.l0 k1 a3 x10_1 x11_1 (wrap64 (x12_1 + 1)) a0_0 a0_1 a0_2 a0_3 l0_4 l0_5) = some r := by rw [if_pos rfl] at H; exact H
             clear H
             have H := H1
             clear H1
             have H' := Aside0.mk H
             clear H
             obtain ⟨Ao29, co29, eo29⟩ := Kd.R_slice HO_11.out
             subst eo29
             have p343 : 0 ≤ (x12_1 : Int) := of_decide_eq_true (by first | (with_reducible assumption) | assumption)
             have q343 : x12_1 < (x11_1.length : Int) := of_decide_eq_true (by first | (with_reducible assumption) | assumption)
             obtain ⟨ad343, e343, hx343_0⟩ := Kd.at_int (Kd.R_reads' HO_11.out).2.2 x12_1 p343 q343
             cases e343
             replace p343 := eq_true p343
             replace q343 := eq_true q343
             obtain ⟨Ao30, co30, eo30⟩ := Kd.R_slice HO_10.out
             subst eo30
             have p344 : 0 ≤ ((rd x11_1 x12_1) : Int) := of_decide_eq_true (by first | (with_reducible assumption) | assumption)
             have q344 : (rd x11_1 x12_1) < (x10_1.length : Int) := of_decide_eq_true (by first | (with_reducible assumption) | assumption)
             obtain ⟨ad344, e344, hx344_0⟩ := Kd.at_bool (Kd.R_reads' HO_10.out).2.2 (rd x11_1 x12_1) p344 q344
             (try rw [← Nbq27.out] at hx344_0)
             cases e344
             replace p344 := eq_true p344
             replace q344 := eq_true q344
             go_wp2
             go_roundg k1
             case measure => have := HK1.out; omega
             case rel => exact ⟨(x10_1), (x11_1), (wrap64 (x12_1 + 1)), (by first | rfl | (simp; done) | (simp [*]; done)), H', ⟨by have := HK1.out; omega⟩, ⟨by (with_reducible repeat (first | apply Kd.R_alloc | apply Kd.R_drewN | apply Kd.R_drew)); exact HO_10.out⟩, ⟨by (with_reducible repeat (first | apply Kd.R_alloc | apply Kd.R_drewN | apply Kd.R_drew)); exact HO_11.out⟩, ⟨by (with_reducible repeat (first | refine blk_drewN ?_ _ | refine blk_drew ?_ | refine blk_alloc ?_ _)); exact BK334.out⟩, ⟨by repeat (first | (with_reducible first | exact HB.out | apply below_alloc | apply pw_below_drewN | apply below_drew1 | refine below_set ?_ GE334.out) | exact HB.out)⟩⟩
            ·
             replace c28 := Bool.eq_false_iff.mpr c28
             subst c28
             have H1 : ((some (x10_1.set ((rd x11_1 x12_1) : Int).toNat true : List Bool)).bind fun y345 => (if (rd x11_1 x12_1) < (l0_5.length : Int) then ((rushlightref16_within.f k1 ((rd_T45 l0_5 (rd x11_1 x12_1)).f0) ((rd_T45 l0_5 (rd x11_1 x12_1)).f1) ((rd_T45 l0_5 (rd x11_1 x12_1)).f2) ((rd_T45 l0_5 (rd x11_1 x12_1)).f3) ((rd_T45 l0_5 (rd x11_1 x12_1)).f4) 0 a3).bind fun t347 => (if t347 = 1 then (some true) else (if t347 = 0 then ((rushlightref16_Outs.f k1 a0_0 a0_1 a0_2 a0_3 l0_4 l0_5 (rd x11_1 x12_1)).bind fun t348 => (rushlightref16_Live.l1 k1 a3 y345 x11_1 x12_1 t348 0 a0_0 a0_1 a0_2 a0_3 l0_4 l0_5)) else (rushlightref16_Live.l0 k1 a3 y345 x11_1 (wrap64 (x12_1 + 1)) a0_0 a0_1 a0_2 a0_3 l0_4 l0_5)))) else (none))) = some r := by rw [if_neg (show ¬ (false = true) by decide)] at H; exact H
             clear H
             have H := H1
             clear H1
             obtain ⟨y345, hy345⟩ : ∃ y_ : List Bool, y_ = (x10_1.set ((rd x11_1 x12_1) : Int).toNat true) := ⟨_, rfl⟩
             replace H : (if (rd x11_1 x12_1) < (l0_5.length : Int) then ((rushlightref16_within.f k1 ((rd_T45 l0_5 (rd x11_1 x12_1)).f0) ((rd_T45 l0_5 (rd x11_1 x12_1)).f1) ((rd_T45 l0_5 (rd x11_1 x12_1)).f2) ((rd_T45 l0_5 (rd x11_1 x12_1)).f3) ((rd_T45 l0_5 (rd x11_1 x12_1)).f4) 0 a3).bind fun t347 => (if t347 = 1 then (some true) else (if t347 = 0 then ((rushlightref16_Outs.f k1 a0_0 a0_1 a0_2 a0_3 l0_4 l0_5 (rd x11_1 x12_1)).bind fun t348 => (rushlightref16_Live.l1 k1 a3 y345 x11_1 x12_1 t348 0 a0_0 a0_1 a0_2 a0_3 l0_4 l0_5)) else (rushlightref16_Live.l0 k1 a3 y345 x11_1 (wrap64 (x12_1 + 1)) a0_0 a0_1 a0_2 a0_3 l0_4 l0_5)))) else (none)) = some r := by first | (rw [hy345]; with_reducible exact H) | (have H2_ := (Option.bind_some _ _).symm.trans H; rw [hy345]; with_reducible exact H2_) | (have H2_ := (Option.bind_some _ _).symm.trans H; with_reducible exact H2_) | with_reducible exact H | (rw [hy345]; exact H) | exact H
             have Ny345 := Aside0.mk hy345
             clear hy345
             by_cases c32 : (rd x11_1 x12_1) < (l0_5.length : Int)
             ·
              rw [if_pos c32] at H
              have c32b0 : decide ((rd x11_1 x12_1) < (l0_5.length : Int)) = true := decide_eq_true c32
              clear c32
              replace H := Option.bind_eq_some_iff.mp H
              obtain ⟨t347, A330, H⟩ := H
              replace H : (if t347 = 1 then (some true) else (if t347 = 0 then ((rushlightref16_Outs.f k1 a0_0 a0_1 a0_2 a0_3 l0_4 l0_5 (rd x11_1 x12_1)).bind fun t348 => (rushlightref16_Live.l1 k1 a3 y345 x11_1 x12_1 t348 0 a0_0 a0_1 a0_2 a0_3 l0_4 l0_5)) else (rushlightref16_Live.l0 k1 a3 y345 x11_1 (wrap64 (x12_1 + 1)) a0_0 a0_1 a0_2 a0_3 l0_4 l0_5))) = some r := H
              have A33 := Aside0.mk A330
              clear A330
              by_cases c34 : t347 = 1
              ·
               rw [if_pos c34] at H
               have c34b0 : (t347 == 1) = true := beq_iff_eq.mpr c34
               have c34b1 : (t347 != 1) = false := bne_eq_false_iff_eq.mpr c34
               clear c34
               obtain rfl := Option.some.inj H
               obtain ⟨Ao35, co35, eo35⟩ := Kd.R_slice HO_11.out
               subst eo35
               have p343 : 0 ≤ (x12_1 : Int) := of_decide_eq_true (by first | (with_reducible assumption) | assumption)
               have q343 : x12_1 < (x11_1.length : Int) := of_decide_eq_true (by first | (with_reducible assumption) | assumption)
               obtain ⟨ad343, e343, hx343_0⟩ := Kd.at_int (Kd.R_reads' HO_11.out).2.2 x12_1 p343 q343
               cases e343
               replace p343 := eq_true p343
               replace q343 := eq_true q343
               obtain ⟨Ao36, co36, eo36⟩ := Kd.R_slice HO_10.out
               subst eo36
               have p344 : 0 ≤ ((rd x11_1 x12_1) : Int) := of_decide_eq_true (by first | (with_reducible assumption) | assumption)
               have q344 : (rd x11_1 x12_1) < (x10_1.length : Int) := of_decide_eq_true (by first | (with_reducible assumption) | assumption)
               obtain ⟨ad344, e344, hx344_0⟩ := Kd.at_bool (Kd.R_reads' HO_10.out).2.2 (rd x11_1 x12_1) p344 q344
               (try rw [← Nbq27.out] at hx344_0)
               cases e344
               replace p344 := eq_true p344
               replace q344 := eq_true q344
               have p31 : 0 ≤ ((rd x11_1 x12_1) : Int) := of_decide_eq_true (by first | (with_reducible assumption) | assumption)
               have q31 : ((rd x11_1 x12_1) : Int) < ((x10_1.length : Int) : Int) := of_decide_eq_true (by first | (with_reducible assumption) | assumption)
               obtain ⟨go31, co31, eo31, gb31, gl31, cl31, HG31⟩ := Kd.R_form HO_10.out (by omega)
               (first | cases eo31 | (injection eo31 with ea_ en_ ec_; (first | subst ea_ | (injection ea_ with ea_; subst ea_)); subst ec_; clear en_))
               have GB31 := Aside0.mk gb31
               have GG31 := Aside0.mk HG31
               clear gb31 gl31 HG31
               (first | simp only [add_plain] at hx344_0 | skip)
               obtain ⟨hx31_0, hf31_0⟩ := Kd.R_celln false HO_10.out ((rd x11_1 x12_1) : Int) p31 q31
               replace p31 := eq_true p31
               replace q31 := eq_true q31
               have HP37 := Kd.R_putg HO_10.out ((rd x11_1 x12_1) : Int) true
               go_wp2_with (first | ((with_reducible refine gate_store (t := 4) (p := 52) rfl ?_); refine store_event (t := 4) (p := 52) (v := ?vo_w38) (w1 := (wr.setCell ⟨go31, ((rd x11_1 x12_1) : Int).toNat, none⟩ (.bool true))) ?hg ?ho ?hn ?hr ?_; (case ho => rfl); (case hg => rfl); (case hn => rfl); (case hr => first | (go_simp; done) | (go_simp; rfl)); intro w38 hw; have hg : wr.grownBy w38 (some go31) := (by rw [hw]; exact HP37.2); have hp_ : Kd.R Kd.bool 4 w38 w.heap.size (fun _ => True) (.slice (some ⟨go31, 0, none⟩) x10_1.length co36) y345 := (by rw [hw, Ny345.out]; exact HP37.1); clear HP37; have n0_ := Aside0.mk (hp_); have n1_ := Aside0.mk (Kd.R_over' (v := (.slice (some ⟨go31, 0, none⟩) x10_1.length co36)) (by (with_reducible repeat (first | apply Kd.R_alloc | apply Kd.R_drewN | apply Kd.R_drew)); exact HO_11.out) (Kd.R_typed HO_10.out) (by decide) hg); have n2_ := Aside0.mk (blk_grown (g := gb334) (o := .cells #[.string a0_0, .bool a0_1, .int .i64 a0_2, .int .i64 a0_3, .slice A0_4 l0_4.length c0_4, .slice (some ad335) l0_5.length c0_5] 31 (0, 0)) (by (with_reducible repeat (first | refine blk_drewN ?_ _ | refine blk_drew ?_ | refine blk_alloc ?_ _)); exact BK334.out) hg (Kd.R_ne HO_10.out BK334.out (by decide))); have n3_ := Aside0.mk ((by rw [hw]; exact below_set (HB.out) GB31.out : Below w.heap.size w w38)); clear HO_10; clear HO_11; clear BK334; clear HB; have HO_10 := n0_; have HO_11 := n1_; have BK334 := n2_; have HB := n3_; clear n0_ n1_ n2_ n3_; clear hg hw hp_; have hcz39_0 : w38.cell? ⟨gb334, 0, none⟩ = some (.string a0_0) := (blk_cell BK334.out 0).trans rfl; have hcz39_1 : w38.cell? ⟨gb334, 1, none⟩ = some (.bool a0_1) := (blk_cell BK334.out 1).trans rfl; have hcz39_2 : w38.cell? ⟨gb334, 2, none⟩ = some (.int .i64 a0_2) := (blk_cell BK334.out 2).trans rfl; have hcz39_3 : w38.cell? ⟨gb334, 3, none⟩ = some (.int .i64 a0_3) := (blk_cell BK334.out 3).trans rfl; have hcz39_4 : w38.cell? ⟨gb334, 4, none⟩ = some (.slice A0_4 l0_4.length c0_4) := (blk_cell BK334.out 4).trans rfl; have hcz39_5 : w38.cell? ⟨gb334, 5, none⟩ = some (.slice (some ad335) l0_5.length c0_5) := (blk_cell BK334.out 5).trans rfl; have hfz39_0 := blk_frozen BK334.out 0; have hfz39_1 := blk_frozen BK334.out 1; have hfz39_2 := blk_frozen BK334.out 2; have hfz39_3 := blk_frozen BK334.out 3; have hfz39_4 := blk_frozen BK334.out 4; have hfz39_5 := blk_frozen BK334.out 5; have p346 : 0 ≤ ((rd x11_1 x12_1) : Int) := of_decide_eq_true (by first | (with_reducible assumption) | assumption); have q346 : (rd x11_1 x12_1) < (l0_5.length : Int) := of_decide_eq_true (by first | (with_reducible assumption) | assumption); obtain ⟨ad346, A346_0, c346_0, e346, hx346_0, hx346_1, hx346_2, hx346_3, hx346_4, hl346_0, hi346_0⟩ := at_T45 HR0_5.out (rd x11_1 x12_1) p346 q346; obtain rfl : ad335 = ad346 := (by injection e346); replace hx346_0 := (HB.out.cell (World.block_lt_of_cell? w _ hx346_0)).trans hx346_0; replace hx346_1 := (HB.out.cell (World.block_lt_of_cell? w _ hx346_1)).trans hx346_1; replace hx346_2 := (HB.out.cell (World.block_lt_of_cell? w _ hx346_2)).trans hx346_2; replace hx346_3 := (HB.out.cell (World.block_lt_of_cell? w _ hx346_3)).trans hx346_3; replace hx346_4 := (HB.out.cell (World.block_lt_of_cell? w _ hx346_4)).trans hx346_4; have HR346_0 := Aside0.mk hi346_0; have HC346_0 := Aside0.mk hl346_0; clear hi346_0 hl346_0; replace p346 := eq_true p346; replace q346 := eq_true q346) | ((with_reducible refine gate_callee (f := 51) rfl ?_); refine goesL_ (some 59) rfl rfl Try.func51 (by kernel_rfl) rfl #[.agg #[.slice A346_0 ((rd_T45 l0_5 (rd x11_1 x12_1)).f0).length c346_0, .int .i64 ((rd_T45 l0_5 (rd x11_1 x12_1)).f1), .int .i64 ((rd_T45 l0_5 (rd x11_1 x12_1)).f2), .int .i64 ((rd_T45 l0_5 (rd x11_1 x12_1)).f3), .int .i64 ((rd_T45 l0_5 (rd x11_1 x12_1)).f4)], .int .i64 0, .int .i64 a3] rfl (by (try simp only [List.map_toArray, List.map_cons, List.map_nil]); first | done | rfl | (simp only [List.length_drop, List.length_take]; rfl)) ?_; (with_reducible refine (rushlightref16_within.calls k1 _ _ ((rd_T45 l0_5 (rd x11_1 x12_1)).f0) ((rd_T45 l0_5 (rd x11_1 x12_1)).f1) ((rd_T45 l0_5 (rd x11_1 x12_1)).f2) ((rd_T45 l0_5 (rd x11_1 x12_1)).f3) ((rd_T45 l0_5 (rd x11_1 x12_1)).f4) 0 a3 t347 _ ?side1 ?side2 A33.out).mono ?_); (case side1 => repeat (first | exact (Kd.C_below HR346_0.out HB.out) | (with_reducible refine Kd.C_alloc ?_ _) | (with_reducible refine Kd.C_drewN ?_ _) | (with_reducible refine Kd.C_drew ?_))); (case side2 => exact HC346_0.out); rintro e w40 ⟨rfl, hb⟩; refine ⟨_, rfl, ?_⟩; have n0_ := Aside0.mk (Kd.R_below (by (with_reducible repeat (first | apply Kd.R_alloc | apply Kd.R_drewN | apply Kd.R_drew)); exact HO_10.out) hb); have n1_ := Aside0.mk (Kd.R_below (by (with_reducible repeat (first | apply Kd.R_alloc | apply Kd.R_drewN | apply Kd.R_drew)); exact HO_11.out) hb); have n2_ := Aside0.mk (blk_below (g := gb334) (o := .cells #[.string a0_0, .bool a0_1, .int .i64 a0_2, .int .i64 a0_3, .slice A0_4 l0_4.length c0_4, .slice (some ad335) l0_5.length c0_5] 31 (0, 0)) (by (with_reducible repeat (first | refine blk_drewN ?_ _ | refine blk_drew ?_ | refine blk_alloc ?_ _)); exact BK334.out) hb); have n3_ := Aside0.mk (below_step (by repeat (first | (with_reducible first | exact HB.out | apply below_alloc | apply pw_below_drewN | apply below_drew1 | refine below_set ?_ GE334.out) | exact HB.out)) hb); clear HO_10; clear HO_11; clear BK334; clear HB; have HO_10 := n0_; have HO_11 := n1_; have BK334 := n2_; have HB := n3_; clear n0_ n1_ n2_ n3_; (try clear hb); (try clear hb2); (try clear hk); (try clear hi)))
               go_ret
               exact ⟨by first | rfl | (simp [errW_none, errW_some] <;> rfl) | (simp [*, errW_none, errW_some] <;> rfl), by repeat (first | (with_reducible first | exact HB.out | apply below_alloc | apply pw_below_drewN | apply below_drew1 | refine below_set ?_ GE334.out) | exact HB.out)⟩
              ·
               rw [if_neg c34] at H
               have c34b0 : (t347 == 1) = false := beq_eq_false_iff_ne.mpr c34
               have c34b1 : (t347 != 1) = true := bne_iff_ne.mpr c34
               by_cases c41 : t347 = 0
               ·
                rw [if_pos c41] at H
                have c41b0 : (t347 == 0) = true := beq_iff_eq.mpr c41
                have c41b1 : (t347 != 0) = false := bne_eq_false_iff_eq.mpr c41
                clear c41
                replace H := Option.bind_eq_some_iff.mp H
                obtain ⟨t348, A420, H⟩ := H
                replace H : (rushlightref16_Live.l1 k1 a3 y345 x11_1 x12_1 t348 0 a0_0 a0_1 a0_2 a0_3 l0_4 l0_5) = some r := H
                have A42 := Aside0.mk A420
                clear A420
                have H' := Aside0.mk H
                clear H
                obtain ⟨Ao43, co43, eo43⟩ := Kd.R_slice HO_11.out
                subst eo43
                have p343 : 0 ≤ (x12_1 : Int) := of_decide_eq_true (by first | (with_reducible assumption) | assumption)
                have q343 : x12_1 < (x11_1.length : Int) := of_decide_eq_true (by first | (with_reducible assumption) | assumption)
                obtain ⟨ad343, e343, hx343_0⟩ := Kd.at_int (Kd.R_reads' HO_11.out).2.2 x12_1 p343 q343
                cases e343
                replace p343 := eq_true p343
                replace q343 := eq_true q343
                obtain ⟨Ao44, co44, eo44⟩ := Kd.R_slice HO_10.out
                subst eo44
                have p344 : 0 ≤ ((rd x11_1 x12_1) : Int) := of_decide_eq_true (by first | (with_reducible assumption) | assumption)
                have q344 : (rd x11_1 x12_1) < (x10_1.length : Int) := of_decide_eq_true (by first | (with_reducible assumption) | assumption)
                obtain ⟨ad344, e344, hx344_0⟩ := Kd.at_bool (Kd.R_reads' HO_10.out).2.2 (rd x11_1 x12_1) p344 q344
                (try rw [← Nbq27.out] at hx344_0)
                cases e344
                replace p344 := eq_true p344
                replace q344 := eq_true q344
                have p31 : 0 ≤ ((rd x11_1 x12_1) : Int) := of_decide_eq_true (by first | (with_reducible assumption) | assumption)
                have q31 : ((rd x11_1 x12_1) : Int) < ((x10_1.length : Int) : Int) := of_decide_eq_true (by first | (with_reducible assumption) | assumption)
                obtain ⟨go31, co31, eo31, gb31, gl31, cl31, HG31⟩ := Kd.R_form HO_10.out (by omega)
                (first | cases eo31 | (injection eo31 with ea_ en_ ec_; (first | subst ea_ | (injection ea_ with ea_; subst ea_)); subst ec_; clear en_))
                have GB31 := Aside0.mk gb31
                have GG31 := Aside0.mk HG31
                clear gb31 gl31 HG31
                (first | simp only [add_plain] at hx344_0 | skip)
                obtain ⟨hx31_0, hf31_0⟩ := Kd.R_celln false HO_10.out ((rd x11_1 x12_1) : Int) p31 q31
                replace p31 := eq_true p31
                replace q31 := eq_true q31
                have HP45 := Kd.R_putg HO_10.out ((rd x11_1 x12_1) : Int) true
                go_wp2_with (first | ((with_reducible refine gate_store (t := 4) (p := 52) rfl ?_); refine store_event (t := 4) (p := 52) (v := ?vo_w46) (w1 := (wr.setCell ⟨go31, ((rd x11_1 x12_1) : Int).toNat, none⟩ (.bool true))) ?hg ?ho ?hn ?hr ?_; (case ho => rfl); (case hg => rfl); (case hn => rfl); (case hr => first | (go_simp; done) | (go_simp; rfl)); intro w46 hw; have hg : wr.grownBy w46 (some go31) := (by rw [hw]; exact HP45.2); have hp_ : Kd.R Kd.bool 4 w46 w.heap.size (fun _ => True) (.slice (some ⟨go31, 0, none⟩) x10_1.length co44) y345 := (by rw [hw, Ny345.out]; exact HP45.1); clear HP45; have n0_ := Aside0.mk (hp_); have n1_ := Aside0.mk (Kd.R_over' (v := (.slice (some ⟨go31, 0, none⟩) x10_1.length co44)) (by (with_reducible repeat (first | apply Kd.R_alloc | apply Kd.R_drewN | apply Kd.R_drew)); exact HO_11.out) (Kd.R_typed HO_10.out) (by decide) hg); have n2_ := Aside0.mk (blk_grown (g := gb334) (o := .cells #[.string a0_0, .bool a0_1, .int .i64 a0_2, .int .i64 a0_3, .slice A0_4 l0_4.length c0_4, .slice (some ad335) l0_5.length c0_5] 31 (0, 0)) (by (with_reducible repeat (first | refine blk_drewN ?_ _ | refine blk_drew ?_ | refine blk_alloc ?_ _)); exact BK334.out) hg (Kd.R_ne HO_10.out BK334.out (by decide))); have n3_ := Aside0.mk ((by rw [hw]; exact below_set (HB.out) GB31.out : Below w.heap.size w w46)); clear HO_10; clear HO_11; clear BK334; clear HB; have HO_10 := n0_; have HO_11 := n1_; have BK334 := n2_; have HB := n3_; clear n0_ n1_ n2_ n3_; clear hg hw hp_; have hcz47_0 : w46.cell? ⟨gb334, 0, none⟩ = some (.string a0_0) := (blk_cell BK334.out 0).trans rfl; have hcz47_1 : w46.cell? ⟨gb334, 1, none⟩ = some (.bool a0_1) := (blk_cell BK334.out 1).trans rfl; have hcz47_2 : w46.cell? ⟨gb334, 2, none⟩ = some (.int .i64 a0_2) := (blk_cell BK334.out 2).trans rfl; have hcz47_3 : w46.cell? ⟨gb334, 3, none⟩ = some (.int .i64 a0_3) := (blk_cell BK334.out 3).trans rfl; have hcz47_4 : w46.cell? ⟨gb334, 4, none⟩ = some (.slice A0_4 l0_4.length c0_4) := (blk_cell BK334.out 4).trans rfl; have hcz47_5 : w46.cell? ⟨gb334, 5, none⟩ = some (.slice (some ad335) l0_5.length c0_5) := (blk_cell BK334.out 5).trans rfl; have hfz47_0 := blk_frozen BK334.out 0; have hfz47_1 := blk_frozen BK334.out 1; have hfz47_2 := blk_frozen BK334.out 2; have hfz47_3 := blk_frozen BK334.out 3; have hfz47_4 := blk_frozen BK334.out 4; have hfz47_5 := blk_frozen BK334.out 5; have p346 : 0 ≤ ((rd x11_1 x12_1) : Int) := of_decide_eq_true (by first | (with_reducible assumption) | assumption); have q346 : (rd x11_1 x12_1) < (l0_5.length : Int) := of_decide_eq_true (by first | (with_reducible assumption) | assumption); obtain ⟨ad346, A346_0, c346_0, e346, hx346_0, hx346_1, hx346_2, hx346_3, hx346_4, hl346_0, hi346_0⟩ := at_T45 HR0_5.out (rd x11_1 x12_1) p346 q346; obtain rfl : ad335 = ad346 := (by injection e346); replace hx346_0 := (HB.out.cell (World.block_lt_of_cell? w _ hx346_0)).trans hx346_0; replace hx346_1 := (HB.out.cell (World.block_lt_of_cell? w _ hx346_1)).trans hx346_1; replace hx346_2 := (HB.out.cell (World.block_lt_of_cell? w _ hx346_2)).trans hx346_2; replace hx346_3 := (HB.out.cell (World.block_lt_of_cell? w _ hx346_3)).trans hx346_3; replace hx346_4 := (HB.out.cell (World.block_lt_of_cell? w _ hx346_4)).trans hx346_4; have HR346_0 := Aside0.mk hi346_0; have HC346_0 := Aside0.mk hl346_0; clear hi346_0 hl346_0; replace p346 := eq_true p346; replace q346 := eq_true q346) | ((with_reducible refine gate_callee (f := 51) rfl ?_); refine goesL_ (some 59) rfl rfl Try.func51 (by kernel_rfl) rfl #[.agg #[.slice A346_0 ((rd_T45 l0_5 (rd x11_1 x12_1)).f0).length c346_0, .int .i64 ((rd_T45 l0_5 (rd x11_1 x12_1)).f1), .int .i64 ((rd_T45 l0_5 (rd x11_1 x12_1)).f2), .int .i64 ((rd_T45 l0_5 (rd x11_1 x12_1)).f3), .int .i64 ((rd_T45 l0_5 (rd x11_1 x12_1)).f4)], .int .i64 0, .int .i64 a3] rfl (by (try simp only [List.map_toArray, List.map_cons, List.map_nil]); first | done | rfl | (simp only [List.length_drop, List.length_take]; rfl)) ?_; (with_reducible refine (rushlightref16_within.calls k1 _ _ ((rd_T45 l0_5 (rd x11_1 x12_1)).f0) ((rd_T45 l0_5 (rd x11_1 x12_1)).f1) ((rd_T45 l0_5 (rd x11_1 x12_1)).f2) ((rd_T45 l0_5 (rd x11_1 x12_1)).f3) ((rd_T45 l0_5 (rd x11_1 x12_1)).f4) 0 a3 t347 _ ?side1 ?side2 A33.out).mono ?_); (case side1 => repeat (first | exact (Kd.C_below HR346_0.out HB.out) | (with_reducible refine Kd.C_alloc ?_ _) | (with_reducible refine Kd.C_drewN ?_ _) | (with_reducible refine Kd.C_drew ?_))); (case side2 => exact HC346_0.out); rintro e w48 ⟨rfl, hb⟩; refine ⟨_, rfl, ?_⟩; have n0_ := Aside0.mk (Kd.R_below (by (with_reducible repeat (first | apply Kd.R_alloc | apply Kd.R_drewN | apply Kd.R_drew)); exact HO_10.out) hb); have n1_ := Aside0.mk (Kd.R_below (by (with_reducible repeat (first | apply Kd.R_alloc | apply Kd.R_drewN | apply Kd.R_drew)); exact HO_11.out) hb); have n2_ := Aside0.mk (blk_below (g := gb334) (o := .cells #[.string a0_0, .bool a0_1, .int .i64 a0_2, .int .i64 a0_3, .slice A0_4 l0_4.length c0_4, .slice (some ad335) l0_5.length c0_5] 31 (0, 0)) (by (with_reducible repeat (first | refine blk_drewN ?_ _ | refine blk_drew ?_ | refine blk_alloc ?_ _)); exact BK334.out) hb); have n3_ := Aside0.mk (below_step (by repeat (first | (with_reducible first | exact HB.out | apply below_alloc | apply pw_below_drewN | apply below_drew1 | refine below_set ?_ GE334.out) | exact HB.out)) hb); clear HO_10; clear HO_11; clear BK334; clear HB; have HO_10 := n0_; have HO_11 := n1_; have BK334 := n2_; have HB := n3_; clear n0_ n1_ n2_ n3_; (try clear hb); (try clear hb2); (try clear hk); (try clear hi); have hcz49_0 : w48.cell? ⟨gb334, 0, none⟩ = some (.string a0_0) := (blk_cell BK334.out 0).trans rfl; have hcz49_1 : w48.cell? ⟨gb334, 1, none⟩ = some (.bool a0_1) := (blk_cell BK334.out 1).trans rfl; have hcz49_2 : w48.cell? ⟨gb334, 2, none⟩ = some (.int .i64 a0_2) := (blk_cell BK334.out 2).trans rfl; have hcz49_3 : w48.cell? ⟨gb334, 3, none⟩ = some (.int .i64 a0_3) := (blk_cell BK334.out 3).trans rfl; have hcz49_4 : w48.cell? ⟨gb334, 4, none⟩ = some (.slice A0_4 l0_4.length c0_4) := (blk_cell BK334.out 4).trans rfl; have hcz49_5 : w48.cell? ⟨gb334, 5, none⟩ = some (.slice (some ad335) l0_5.length c0_5) := (blk_cell BK334.out 5).trans rfl; have hfz49_0 := blk_frozen BK334.out 0; have hfz49_1 := blk_frozen BK334.out 1; have hfz49_2 := blk_frozen BK334.out 2; have hfz49_3 := blk_frozen BK334.out 3; have hfz49_4 := blk_frozen BK334.out 4; have hfz49_5 := blk_frozen BK334.out 5) | ((with_reducible refine gate_callee (f := 23) rfl ?_); refine goesL_ (some 66) rfl rfl Try.func23 (by kernel_rfl) rfl #[.agg #[.string a0_0, .bool a0_1, .int .i64 a0_2, .int .i64 a0_3, .slice A0_4 l0_4.length c0_4, .slice (some ad335) l0_5.length c0_5], .int .i64 (rd x11_1 x12_1)] rfl (by (try simp only [List.map_toArray, List.map_cons, List.map_nil]); first | done | rfl | (simp only [List.length_drop, List.length_take]; rfl)) ?_; (with_reducible refine (rushlightref16_Outs.calls k1 a0_0 a0_1 a0_2 a0_3 _ _ l0_4 _ _ l0_5 (rd x11_1 x12_1) t348 _ ?side1 ?side2 ?side3 ?side4 A42.out).mono ?_); (case side1 => repeat (first | exact (Kd.C_below HR0_4.out HB.out) | (with_reducible refine Kd.C_alloc ?_ _) | (with_reducible refine Kd.C_drewN ?_ _) | (with_reducible refine Kd.C_drew ?_))); (case side2 => exact HC0_4.out); (case side3 => repeat (first | exact (Kd.C_below HR0_5.out HB.out) | (with_reducible refine Kd.C_alloc ?_ _) | (with_reducible refine Kd.C_drewN ?_ _) | (with_reducible refine Kd.C_drew ?_))); (case side4 => exact HC0_5.out); rintro e w50 ⟨v349, rfl, ho0, hb⟩; refine ⟨_, rfl, ?_⟩; have n0_ := Aside0.mk (Kd.R_below (by (with_reducible repeat (first | apply Kd.R_alloc | apply Kd.R_drewN | apply Kd.R_drew)); exact HO_10.out) hb); have n1_ := Aside0.mk (Kd.R_elder' (by (with_reducible repeat (first | apply Kd.R_alloc | apply Kd.R_drewN | apply Kd.R_drew)); exact HO_11.out) (Kd.R_base ho0) hb); have n2_ := Aside0.mk (Kd.R_lower (Kd.R_new' ho0 (Kd.R_lt (by (with_reducible repeat (first | apply Kd.R_alloc | apply Kd.R_drewN | apply Kd.R_drew)); exact HO_11.out))) (below_size (by repeat (first | (with_reducible first | exact HB.out | apply below_alloc | apply pw_below_drewN | apply below_drew1 | refine below_set ?_ GE334.out) | exact HB.out)))); have n3_ := Aside0.mk (blk_below (g := gb334) (o := .cells #[.string a0_0, .bool a0_1, .int .i64 a0_2, .int .i64 a0_3, .slice A0_4 l0_4.length c0_4, .slice (some ad335) l0_5.length c0_5] 31 (0, 0)) (by (with_reducible repeat (first | refine blk_drewN ?_ _ | refine blk_drew ?_ | refine blk_alloc ?_ _)); exact BK334.out) hb); have n4_ := Aside0.mk (below_step (by repeat (first | (with_reducible first | exact HB.out | apply below_alloc | apply pw_below_drewN | apply below_drew1 | refine below_set ?_ GE334.out) | exact HB.out)) hb); clear HO_10; clear HO_11; clear BK334; clear HB; have HO_10 := n0_; have HO_11 := n1_; have HO350 := n2_; have BK334 := n3_; have HB := n4_; clear n0_ n1_ n2_ n3_ n4_; (try clear hb); (try clear hb2); (try clear hk); (try clear hi); (try clear ho0)))
                go_loopg [11, 16] k1 (fun kq v11 v16 w' => ∃ (x11_2 : List Int) (x16_2 : Int), v16 = .int .i64 x16_2 ∧ Aside0 (rushlightref16_Live.l1 kq a3 y345 x11_2 x12_1 t348 x16_2 a0_0 a0_1 a0_2 a0_3 l0_4 l0_5 = some r) ∧ Aside0 (kq ≤ k1) ∧ Aside0 (Kd.R Kd.bool 4 w' w.heap.size (fun _ => True) (.slice (some ⟨go31, 0, none⟩) x10_1.length co44) y345) ∧ Aside0 (Kd.R (Kd.int .i64) 3 w' w.heap.size (fun k_ => some k_ ≠ (v349 : Value).ownBlock) v11 x11_2) ∧ Aside0 (Kd.R (Kd.int .i64) 3 w' w.heap.size (fun k_ => some k_ ≠ (v11 : Value).ownBlock) v349 t348) ∧ Aside0 (w'.heap[gb334]? = some (.cells #[.string a0_0, .bool a0_1, .int .i64 a0_2, .int .i64 a0_3, (.slice A0_4 l0_4.length c0_4), (.slice (some ad335) l0_5.length c0_5)] 31 (0, 0))) ∧ Aside0 (Below w.heap.size w w'))
                case atStart => exact ⟨(x11_1), (0), (by first | rfl | (simp; done) | (simp [*]; done)), H', ⟨Nat.le_refl _⟩, ⟨by (with_reducible repeat (first | apply Kd.R_alloc | apply Kd.R_drewN | apply Kd.R_drew)); exact HO_10.out⟩, ⟨by (with_reducible repeat (first | apply Kd.R_alloc | apply Kd.R_drewN | apply Kd.R_drew)); exact Kd.R_mono HO_11.out (fun _ hk => hk.2)⟩, ⟨by (with_reducible repeat (first | apply Kd.R_alloc | apply Kd.R_drewN | apply Kd.R_drew)); exact Kd.R_mono HO350.out (fun _ hk => hk.2)⟩, ⟨by (with_reducible repeat (first | refine blk_drewN ?_ _ | refine blk_drew ?_ | refine blk_alloc ?_ _)); exact BK334.out⟩, ⟨by repeat (first | (with_reducible first | exact HB.out | apply below_alloc | apply pw_below_drewN | apply below_drew1 | refine below_set ?_ GE334.out) | exact HB.out)⟩⟩
                case round =>
                 clear H'
                 obtain ⟨x11_2, x16_2, rfl, HA, HK2, HO_10, HO_11, HO_15, BK334, HB⟩ := hrel
                 have hl10_2 := (Kd.R_reads' HO_10.out).1
                 rw [hl10_2] at HO_10
                 (try simp only [hl10_2])
                 (try simp only [hl10_2] at BK334)
                 (try simp only [hl10_2] at HO_11)
                 (try simp only [hl10_2] at HO_15)
                 cases gk with
                 | zero => exact absurd HA.out (by simp [rushlightref16_Live.l1])
                 | succ k2 =>
                  have H := HA.out
                  clear HA
                  simp only [rushlightref16_Live.l1] at H
                  by_cases c51 : x16_2 < (t348.length : Int)
                  ·
                   rw [if_pos c51] at H
                   have c51b0 : decide (x16_2 < (t348.length : Int)) = true := decide_eq_true c51
                   clear c51
                   by_cases c52 : 0 ≤ x16_2
                   ·
                    rw [if_pos c52] at H
                    have c52b0 : decide (0 ≤ x16_2) = true := decide_eq_true c52
                    clear c52
                    by_cases c53 : x11_2.length < 17592186044416
                    ·
                     rw [if_pos c53] at H
                     have LMc53 := Aside0.mk c53
                     clear c53
                     obtain ⟨y352, hy352⟩ : ∃ y_ : List Int, y_ = (x11_2 ++ [rd t348 x16_2]) := ⟨_, rfl⟩
                     replace H : (rushlightref16_Live.l1 k2 a3 y345 y352 x12_1 t348 (wrap64 (x16_2 + 1)) a0_0 a0_1 a0_2 a0_3 l0_4 l0_5) = some r := by first | (rw [hy352]; with_reducible exact H) | (have H2_ := (Option.bind_some _ _).symm.trans H; rw [hy352]; with_reducible exact H2_) | (have H2_ := (Option.bind_some _ _).symm.trans H; with_reducible exact H2_) | with_reducible exact H | (rw [hy352]; exact H) | exact H
                     have Ny352 := Aside0.mk hy352
                     clear hy352
                     have H' := Aside0.mk H
                     clear H
                     obtain ⟨Ao54, co54, eo54⟩ := Kd.R_slice HO_15.out
                     subst eo54
                     have p351 : 0 ≤ (x16_2 : Int) := of_decide_eq_true (by first | (with_reducible assumption) | assumption)
                     have q351 : x16_2 < (t348.length : Int) := of_decide_eq_true (by first | (with_reducible assumption) | assumption)
                     obtain ⟨ad351, e351, hx351_0⟩ := Kd.at_int (Kd.R_reads' HO_15.out).2.2 x16_2 p351 q351
                     cases e351
                     replace p351 := eq_true p351
                     replace q351 := eq_true q351
                     go_wp2_with (first | ((with_reducible refine gate_builtin (b := .append) (xs := #[.tmp 73, .tmp 78]) rfl ?_); at_builtin; refine Kd.R_append (Kd.int .i64) (w0 := w) w.heap.size rfl (.tmp 73) (.tmp 78) 46 3 (.int .i64 0) 8 rfl Try.underlying46 info3 rfl (by decide) (by omega) u11 x11_2 (rd t348 x16_2) [.int .i64 (rd t348 x16_2)] (fun k_ => some k_ ≠ (.slice (some ad351) t348.length co54 : Value).ownBlock) (fun _ => False) rfl rfl ?aP (fun _ hk => hk.elim) ?aF ?aO ?aB ?aS ?aL ?_; (case aP => exact rfl); (case aB => exact (by repeat (first | (with_reducible first | exact HB.out | apply below_alloc | apply pw_below_drewN | apply below_drew1 | refine below_set ?_ GE334.out) | exact HB.out))); (case aF => exact (fun k_ hk => Kd.fresh' (Kd.R_lt (by (with_reducible repeat (first | apply Kd.R_alloc | apply Kd.R_drewN | apply Kd.R_drew)); exact HO_15.out)) k_ hk)); (case aO => exact (by (with_reducible repeat (first | apply Kd.R_alloc | apply Kd.R_drewN | apply Kd.R_drew)); exact HO_11.out)); (case aS => exact (below_size (by repeat (first | (with_reducible first | exact HB.out | apply below_alloc | apply pw_below_drewN | apply below_drew1 | refine below_set ?_ GE334.out) | exact HB.out)))); (case aL => have := LMc53.out; omega); intro v353 w55 ho hb hg hat; rw [← Ny352.out] at ho; have n0_ := Aside0.mk (Kd.R_over' (by (with_reducible repeat (first | apply Kd.R_alloc | apply Kd.R_drewN | apply Kd.R_drew)); exact HO_10.out) (Kd.R_typed (by (with_reducible repeat (first | apply Kd.R_alloc | apply Kd.R_drewN | apply Kd.R_drew)); exact HO_11.out)) (by decide) hg); have n1_ := Aside0.mk (Kd.R_after (ok := (fun _ => True)) (by (with_reducible repeat (first | apply Kd.R_alloc | apply Kd.R_drewN | apply Kd.R_drew)); exact Kd.R_mono HO_15.out (fun _ hk => ⟨trivial, hk⟩)) hg hat); have n2_ := Aside0.mk (blk_grown (g := gb334) (o := .cells #[.string a0_0, .bool a0_1, .int .i64 a0_2, .int .i64 a0_3, .slice A0_4 l0_4.length c0_4, .slice (some ad335) l0_5.length c0_5] 31 (0, 0)) (by (with_reducible repeat (first | refine blk_drewN ?_ _ | refine blk_drew ?_ | refine blk_alloc ?_ _)); exact BK334.out) hg (Kd.R_ne HO_11.out BK334.out (by decide))); have n3_ := Aside0.mk (hb); have n4_ := Aside0.mk (ho); clear HO_10; clear HO_15; clear BK334; clear HB; clear HO_11; have HO_10 := n0_; have HO_15 := n1_; have BK334 := n2_; have HB := n3_; have HO354 := n4_; clear n0_ n1_ n2_ n3_ n4_; clear ho hb hg hat))
                     (try simp only [← hl10_2])
                     go_roundg k2
                     case measure => have := HK1.out; have := HK2.out; omega
                     case rel => exact ⟨(y352), (wrap64 (x16_2 + 1)), (by first | rfl | (simp; done) | (simp [*]; done)), H', ⟨by have := HK1.out; have := HK2.out; omega⟩, ⟨by (try simp only [hl10_2]); (with_reducible repeat (first | apply Kd.R_alloc | apply Kd.R_drewN | apply Kd.R_drew)); exact HO_10.out⟩, ⟨by (try simp only [hl10_2]); (with_reducible repeat (first | apply Kd.R_alloc | apply Kd.R_drewN | apply Kd.R_drew)); exact HO354.out⟩, ⟨by (try simp only [hl10_2]); (with_reducible repeat (first | apply Kd.R_alloc | apply Kd.R_drewN | apply Kd.R_drew)); exact Kd.R_mono HO_15.out (fun _ hk => hk.2)⟩, ⟨by (try simp only [hl10_2]); (with_reducible repeat (first | refine blk_drewN ?_ _ | refine blk_drew ?_ | refine blk_alloc ?_ _)); exact BK334.out⟩, ⟨by repeat (first | (with_reducible first | exact HB.out | apply below_alloc | apply pw_below_drewN | apply below_drew1 | refine below_set ?_ GE334.out) | exact HB.out)⟩⟩
                    ·
                     rw [if_neg c53] at H
                     exact absurd H (by simp)
                   ·
                    rw [if_neg c52] at H
                    exact absurd H (by simp)
                  ·
                   rw [if_neg c51] at H
                   have c51b0 : decide (x16_2 < (t348.length : Int)) = false := decide_eq_false c51
                   clear c51
                   have H' := Aside0.mk H
                   clear H
                   obtain ⟨Ao56, co56, eo56⟩ := Kd.R_slice HO_15.out
                   subst eo56
                   go_wp2
                   (try simp only [← hl10_2])
                   go_roundg k2
                   case measure => have := HK1.out; have := HK2.out; omega
                   case rel => exact ⟨(y345), (x11_2), (wrap64 (x12_1 + 1)), (by first | rfl | (simp; done) | (simp [*]; done)), H', ⟨by have := HK1.out; have := HK2.out; omega⟩, ⟨by (try simp only [hl10_2]); (with_reducible repeat (first | apply Kd.R_alloc | apply Kd.R_drewN | apply Kd.R_drew)); exact HO_10.out⟩, ⟨by (try simp only [hl10_2]); (with_reducible repeat (first | apply Kd.R_alloc | apply Kd.R_drewN | apply Kd.R_drew)); exact Kd.R_mono HO_11.out (fun _ hk => trivial)⟩, ⟨by (try simp only [hl10_2]); (with_reducible repeat (first | refine blk_drewN ?_ _ | refine blk_drew ?_ | refine blk_alloc ?_ _)); exact BK334.out⟩, ⟨by repeat (first | (with_reducible first | exact HB.out | apply below_alloc | apply pw_below_drewN | apply below_drew1 | refine below_set ?_ GE334.out) | exact HB.out)⟩⟩
               ·
                rw [if_neg c41] at H
                have c41b0 : (t347 == 0) = false := beq_eq_false_iff_ne.mpr c41
                have c41b1 : (t347 != 0) = true := bne_iff_ne.mpr c41
                have H' := Aside0.mk H
                clear H
                obtain ⟨Ao57, co57, eo57⟩ := Kd.R_slice HO_11.out
                subst eo57
                have p343 : 0 ≤ (x12_1 : Int) := of_decide_eq_true (by first | (with_reducible assumption) | assumption)
                have q343 : x12_1 < (x11_1.length : Int) := of_decide_eq_true (by first | (with_reducible assumption) | assumption)
                obtain ⟨ad343, e343, hx343_0⟩ := Kd.at_int (Kd.R_reads' HO_11.out).2.2 x12_1 p343 q343
                cases e343
                replace p343 := eq_true p343
                replace q343 := eq_true q343
                obtain ⟨Ao58, co58, eo58⟩ := Kd.R_slice HO_10.out
                subst eo58
                have p344 : 0 ≤ ((rd x11_1 x12_1) : Int) := of_decide_eq_true (by first | (with_reducible assumption) | assumption)
                have q344 : (rd x11_1 x12_1) < (x10_1.length : Int) := of_decide_eq_true (by first | (with_reducible assumption) | assumption)
                obtain ⟨ad344, e344, hx344_0⟩ := Kd.at_bool (Kd.R_reads' HO_10.out).2.2 (rd x11_1 x12_1) p344 q344
                (try rw [← Nbq27.out] at hx344_0)
                cases e344
                replace p344 := eq_true p344
                replace q344 := eq_true q344
                have p31 : 0 ≤ ((rd x11_1 x12_1) : Int) := of_decide_eq_true (by first | (with_reducible assumption) | assumption)
                have q31 : ((rd x11_1 x12_1) : Int) < ((x10_1.length : Int) : Int) := of_decide_eq_true (by first | (with_reducible assumption) | assumption)
                obtain ⟨go31, co31, eo31, gb31, gl31, cl31, HG31⟩ := Kd.R_form HO_10.out (by omega)
                (first | cases eo31 | (injection eo31 with ea_ en_ ec_; (first | subst ea_ | (injection ea_ with ea_; subst ea_)); subst ec_; clear en_))
                have GB31 := Aside0.mk gb31
                have GG31 := Aside0.mk HG31
                clear gb31 gl31 HG31
                (first | simp only [add_plain] at hx344_0 | skip)
                obtain ⟨hx31_0, hf31_0⟩ := Kd.R_celln false HO_10.out ((rd x11_1 x12_1) : Int) p31 q31
                replace p31 := eq_true p31
                replace q31 := eq_true q31
                have HP59 := Kd.R_putg HO_10.out ((rd x11_1 x12_1) : Int) true
                go_wp2_with (first | ((with_reducible refine gate_store (t := 4) (p := 52) rfl ?_); refine store_event (t := 4) (p := 52) (v := ?vo_w60) (w1 := (wr.setCell ⟨go31, ((rd x11_1 x12_1) : Int).toNat, none⟩ (.bool true))) ?hg ?ho ?hn ?hr ?_; (case ho => rfl); (case hg => rfl); (case hn => rfl); (case hr => first | (go_simp; done) | (go_simp; rfl)); intro w60 hw; have hg : wr.grownBy w60 (some go31) := (by rw [hw]; exact HP59.2); have hp_ : Kd.R Kd.bool 4 w60 w.heap.size (fun _ => True) (.slice (some ⟨go31, 0, none⟩) x10_1.length co58) y345 := (by rw [hw, Ny345.out]; exact HP59.1); clear HP59; have n0_ := Aside0.mk (hp_); have n1_ := Aside0.mk (Kd.R_over' (v := (.slice (some ⟨go31, 0, none⟩) x10_1.length co58)) (by (with_reducible repeat (first | apply Kd.R_alloc | apply Kd.R_drewN | apply Kd.R_drew)); exact HO_11.out) (Kd.R_typed HO_10.out) (by decide) hg); have n2_ := Aside0.mk (blk_grown (g := gb334) (o := .cells #[.string a0_0, .bool a0_1, .int .i64 a0_2, .int .i64 a0_3, .slice A0_4 l0_4.length c0_4, .slice (some ad335) l0_5.length c0_5] 31 (0, 0)) (by (with_reducible repeat (first | refine blk_drewN ?_ _ | refine blk_drew ?_ | refine blk_alloc ?_ _)); exact BK334.out) hg (Kd.R_ne HO_10.out BK334.out (by decide))); have n3_ := Aside0.mk ((by rw [hw]; exact below_set (HB.out) GB31.out : Below w.heap.size w w60)); clear HO_10; clear HO_11; clear BK334; clear HB; have HO_10 := n0_; have HO_11 := n1_; have BK334 := n2_; have HB := n3_; clear n0_ n1_ n2_ n3_; clear hg hw hp_; have hcz61_0 : w60.cell? ⟨gb334, 0, none⟩ = some (.string a0_0) := (blk_cell BK334.out 0).trans rfl; have hcz61_1 : w60.cell? ⟨gb334, 1, none⟩ = some (.bool a0_1) := (blk_cell BK334.out 1).trans rfl; have hcz61_2 : w60.cell? ⟨gb334, 2, none⟩ = some (.int .i64 a0_2) := (blk_cell BK334.out 2).trans rfl; have hcz61_3 : w60.cell? ⟨gb334, 3, none⟩ = some (.int .i64 a0_3) := (blk_cell BK334.out 3).trans rfl; have hcz61_4 : w60.cell? ⟨gb334, 4, none⟩ = some (.slice A0_4 l0_4.length c0_4) := (blk_cell BK334.out 4).trans rfl; have hcz61_5 : w60.cell? ⟨gb334, 5, none⟩ = some (.slice (some ad335) l0_5.length c0_5) := (blk_cell BK334.out 5).trans rfl; have hfz61_0 := blk_frozen BK334.out 0; have hfz61_1 := blk_frozen BK334.out 1; have hfz61_2 := blk_frozen BK334.out 2; have hfz61_3 := blk_frozen BK334.out 3; have hfz61_4 := blk_frozen BK334.out 4; have hfz61_5 := blk_frozen BK334.out 5; have p346 : 0 ≤ ((rd x11_1 x12_1) : Int) := of_decide_eq_true (by first | (with_reducible assumption) | assumption); have q346 : (rd x11_1 x12_1) < (l0_5.length : Int) := of_decide_eq_true (by first | (with_reducible assumption) | assumption); obtain ⟨ad346, A346_0, c346_0, e346, hx346_0, hx346_1, hx346_2, hx346_3, hx346_4, hl346_0, hi346_0⟩ := at_T45 HR0_5.out (rd x11_1 x12_1) p346 q346; obtain rfl : ad335 = ad346 := (by injection e346); replace hx346_0 := (HB.out.cell (World.block_lt_of_cell? w _ hx346_0)).trans hx346_0; replace hx346_1 := (HB.out.cell (World.block_lt_of_cell? w _ hx346_1)).trans hx346_1; replace hx346_2 := (HB.out.cell (World.block_lt_of_cell? w _ hx346_2)).trans hx346_2; replace hx346_3 := (HB.out.cell (World.block_lt_of_cell? w _ hx346_3)).trans hx346_3; replace hx346_4 := (HB.out.cell (World.block_lt_of_cell? w _ hx346_4)).trans hx346_4; have HR346_0 := Aside0.mk hi346_0; have HC346_0 := Aside0.mk hl346_0; clear hi346_0 hl346_0; replace p346 := eq_true p346; replace q346 := eq_true q346) | ((with_reducible refine gate_callee (f := 51) rfl ?_); refine goesL_ (some 59) rfl rfl Try.func51 (by kernel_rfl) rfl #[.agg #[.slice A346_0 ((rd_T45 l0_5 (rd x11_1 x12_1)).f0).length c346_0, .int .i64 ((rd_T45 l0_5 (rd x11_1 x12_1)).f1), .int .i64 ((rd_T45 l0_5 (rd x11_1 x12_1)).f2), .int .i64 ((rd_T45 l0_5 (rd x11_1 x12_1)).f3), .int .i64 ((rd_T45 l0_5 (rd x11_1 x12_1)).f4)], .int .i64 0, .int .i64 a3] rfl (by (try simp only [List.map_toArray, List.map_cons, List.map_nil]); first | done | rfl | (simp only [List.length_drop, List.length_take]; rfl)) ?_; (with_reducible refine (rushlightref16_within.calls k1 _ _ ((rd_T45 l0_5 (rd x11_1 x12_1)).f0) ((rd_T45 l0_5 (rd x11_1 x12_1)).f1) ((rd_T45 l0_5 (rd x11_1 x12_1)).f2) ((rd_T45 l0_5 (rd x11_1 x12_1)).f3) ((rd_T45 l0_5 (rd x11_1 x12_1)).f4) 0 a3 t347 _ ?side1 ?side2 A33.out).mono ?_); (case side1 => repeat (first | exact (Kd.C_below HR346_0.out HB.out) | (with_reducible refine Kd.C_alloc ?_ _) | (with_reducible refine Kd.C_drewN ?_ _) | (with_reducible refine Kd.C_drew ?_))); (case side2 => exact HC346_0.out); rintro e w62 ⟨rfl, hb⟩; refine ⟨_, rfl, ?_⟩; have n0_ := Aside0.mk (Kd.R_below (by (with_reducible repeat (first | apply Kd.R_alloc | apply Kd.R_drewN | apply Kd.R_drew)); exact HO_10.out) hb); have n1_ := Aside0.mk (Kd.R_below (by (with_reducible repeat (first | apply Kd.R_alloc | apply Kd.R_drewN | apply Kd.R_drew)); exact HO_11.out) hb); have n2_ := Aside0.mk (blk_below (g := gb334) (o := .cells #[.string a0_0, .bool a0_1, .int .i64 a0_2, .int .i64 a0_3, .slice A0_4 l0_4.length c0_4, .slice (some ad335) l0_5.length c0_5] 31 (0, 0)) (by (with_reducible repeat (first | refine blk_drewN ?_ _ | refine blk_drew ?_ | refine blk_alloc ?_ _)); exact BK334.out) hb); have n3_ := Aside0.mk (below_step (by repeat (first | (with_reducible first | exact HB.out | apply below_alloc | apply pw_below_drewN | apply below_drew1 | refine below_set ?_ GE334.out) | exact HB.out)) hb); clear HO_10; clear HO_11; clear BK334; clear HB; have HO_10 := n0_; have HO_11 := n1_; have BK334 := n2_; have HB := n3_; clear n0_ n1_ n2_ n3_; (try clear hb); (try clear hb2); (try clear hk); (try clear hi)))
                go_roundg k1
                case measure => have := HK1.out; omega
                case rel => exact ⟨(y345), (x11_1), (wrap64 (x12_1 + 1)), (by first | rfl | (simp; done) | (simp [*]; done)), H', ⟨by have := HK1.out; omega⟩, ⟨by (with_reducible repeat (first | apply Kd.R_alloc | apply Kd.R_drewN | apply Kd.R_drew)); exact HO_10.out⟩, ⟨by (with_reducible repeat (first | apply Kd.R_alloc | apply Kd.R_drewN | apply Kd.R_drew)); exact HO_11.out⟩, ⟨by (with_reducible repeat (first | refine blk_drewN ?_ _ | refine blk_drew ?_ | refine blk_alloc ?_ _)); exact BK334.out⟩, ⟨by repeat (first | (with_reducible first | exact HB.out | apply below_alloc | apply pw_below_drewN | apply below_drew1 | refine below_set ?_ GE334.out) | exact HB.out)⟩⟩
             ·
              rw [if_neg c32] at H
              exact absurd H (by simp)
           ·
            rw [if_neg c26] at H
            exact absurd H (by simp)
          ·
           rw [if_neg c25] at H
           exact absurd H (by simp)
         ·
          rw [if_neg c24] at H
          exact absurd H (by simp)
        ·
         rw [if_neg c23] at H
         have c23b0 : decide (x12_1 < (x11_1.length : Int)) = false := decide_eq_false c23
         clear c23
         obtain rfl := Option.some.inj H
         obtain ⟨Ao63, co63, eo63⟩ := Kd.R_slice HO_11.out
         subst eo63
         go_wp2
         go_ret
         exact ⟨by first | rfl | (simp [errW_none, errW_some] <;> rfl) | (simp [*, errW_none, errW_some] <;> rfl), by repeat (first | (with_reducible first | exact HB.out | apply below_alloc | apply pw_below_drewN | apply below_drew1 | refine below_set ?_ GE334.out) | exact HB.out)⟩
     ·
      rw [if_neg c13] at H
      exact absurd H (by simp)
    ·
     rw [if_neg c12] at H
     exact absurd H (by simp)
  ·
   rw [if_neg c6] at H
   exact absurd H (by simp)
 ·
  rw [if_neg c5] at H
  exact absurd H (by simp)

end Go.Proofs.Ytppanpboejpmjaa.Tr
