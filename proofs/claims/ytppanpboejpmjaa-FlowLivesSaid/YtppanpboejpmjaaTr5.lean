-- Written by this session's own program (wip/tools/myprint.py over the kit's printer), functions proved by hand among them. Not trusted: Lean checks it.
import Derived.Test.YtppanpboejpmjaaTr0
/- shrunk -/
namespace Go.Proofs.Ytppanpboejpmjaa.Tr
open Go.RowKit Go.Proofs.YtppanpboejpmjaaW.PrintWords Go.Proofs.YtppanpboejpmjaaW.PrintLast Go.Proofs.YtppanpboejpmjaaW.PrintMore
attribute [local go_sem] max2_int min2_int max_two min_two max_three min_three max_four min_four   -- for this text's walks alone
set_option linter.unusedVariables false
set_option linter.unusedSimpArgs false

/-! ### rushlightref13_fields: function 70 -/
def rushlightref13_fields.f (a0 : Int) : Option (List Bool) := (some (([[], (([true, false, false, false, false, false, false, true, false, true] : List Bool)), (([true, true, false, false, false, false, false, false, false, true] : List Bool)), (([true, true, true, true, false, false, false, false, false, true] : List Bool)), (([true, true, false, true, false, false, false, false, false, true] : List Bool)), (([true, true, false, false, false, true, true, false, false, true] : List Bool)), (([false, true, true, false, false, true, true, false, false, true] : List Bool)), (([true, false, false, false, true, true, false, false, false, true] : List Bool)), (([true, false, false, false, true, true, false, false, false, true] : List Bool)), (([true, false, false, false, true, false, false, false, true, true] : List Bool)), (([false, true, false, false, false, false, false, false, false, false] : List Bool)), (([true, false, false, false, false, false, false, false, false, true] : List Bool)), (([false, false, false, false, false, false, false, false, false, false] : List Bool))] : List (List Bool)) : List (List Bool))).bind fun y298 => (if a0 < 1 then (some ([] : List Bool)) else (if a0 > 12 then (some ([] : List Bool)) else (if 0 ≤ a0 then (if a0 < (y298.length : Int) then (some (rd_L14 y298 a0)) else (none)) else (none))))
def rushlightref13_fields.T : List (List Bool) := [[true, false, false, false, false, false, false, true, false, true], [true, true, false, false, false, false, false, false, false, true], [true, true, true, true, false, false, false, false, false, true], [true, true, false, true, false, false, false, false, false, true], [true, true, false, false, false, true, true, false, false, true], [false, true, true, false, false, true, true, false, false, true], [true, false, false, false, true, true, false, false, false, true], [true, false, false, false, true, true, false, false, false, true], [true, false, false, false, true, false, false, false, true, true], [false, true, false, false, false, false, false, false, false, false], [true, false, false, false, false, false, false, false, false, true], [false, false, false, false, false, false, false, false, false, false]]
theorem rushlightref13_fields.grow : ∀ (os : List Obj) (w : World), (os.foldl World.alloc w).heap.size = w.heap.size + os.length ∧ Below w.heap.size w (os.foldl World.alloc w) ∧ ∀ i o, os[i]? = some o → (os.foldl World.alloc w).heap[w.heap.size + i]? = some o
 | [], w => ⟨rfl, Below.refl _ _, fun i o h => by simp at h⟩
 | x :: os, w => by
  obtain ⟨h1, h2, h3⟩ := rushlightref13_fields.grow os (w.alloc x)
  rw [World.size_alloc] at h1 h3
  have hb := below_step (below_alloc (Below.refl w.heap.size w) x) h2
  refine ⟨by rw [List.foldl_cons, h1, List.length_cons]; omega, hb, fun i o h => ?_⟩
  rw [List.foldl_cons]
  cases i with
  | zero =>
   have : x = o := by simpa using h
   subst this
   exact blk_below (blk_new w x) h2
  | succ i => rw [show w.heap.size + (i + 1) = w.heap.size + 1 + i by omega]; exact h3 i o (by simpa using h)
def rushlightref13_fields.O (b : Nat) : List Obj := rushlightref13_fields.T.map (fun l => .cells (bools l).toArray 4) ++ [.cells (Value.slice none 0 0 :: (List.range 12).map fun i => Value.slice (some ⟨b + i, 0, none⟩) 10 10).toArray 41]
theorem rushlightref13_fields.all : ∀ j : Fin 12, rushlightref13_fields.f ((j.val + 1 : Nat) : Int) = some (rushlightref13_fields.T.getD j.val []) ∧ (rushlightref13_fields.T.getD j.val []).length = 10 := by decide +kernel
theorem rushlightref13_fields.wp_at {P : Program} {c : Code} {Q : Exit → Act → World → Prop} {a : Act} {W W' : World} (e : W = W') (h : c.wp P Q a W') : c.wp P Q a W := by rw [e]; exact h
theorem rushlightref13_fields.row {W : World} {base g : Nat} {l : List Bool} (h : W.heap[g]? = some (.cells (bools l).toArray 4 (0, 0))) (h10 : l.length = 10) (hg : base ≤ g) : Kd.R Kd.bool 4 W base (fun k => base ≤ k) (.slice (some ⟨g, 0, none⟩) 10 10) l :=
 Kd.R_of_own (enc := Value.bool) (h1 := fun _ => rfl) ⟨by simp [encs], .inr ⟨g, 10, _, by rw [h10], hg, h, by rw [h10]; exact Nat.le_refl _, by decide, by simp [bools, h10], by
  rw [Nat.mul_one]
  exact List.take_of_length_le (by simp [bools])⟩⟩ (fun k hk => by have : g = k := (by injection hk); omega)
set_option maxHeartbeats 8000000 in
set_option maxRecDepth 100000 in
theorem rushlightref13_fields.calls (a0 : Int) (r : List Bool) (w : World) (h : rushlightref13_fields.f a0 = some r) :
  Calls Try.prog 70 #[.int .i64 a0] w fun e w' => ∃ v0_ : Value, e = .returned (v0_) ∧ Kd.V Kd.bool 4 w' w.heap.size (fun k_ => (w.heap.size ≤ k_)) v0_ r ∧ Below w.heap.size w w' := by
 have hu41 := Try.underlying41
 have hu38 := Try.underlying38
 obtain ⟨_, hB, hO⟩ := rushlightref13_fields.grow (rushlightref13_fields.O w.heap.size) w
 have HB := Aside0.mk hB
 have HO := Aside0.mk hO
 have HF := Aside0.mk h
 clear h hB hO
 go_enter Try.func70, Try.ntmps70
 go_upto_region 2 with (fail)
 refine rushlightref13_fields.wp_at (W' := (rushlightref13_fields.O w.heap.size).foldl World.alloc w) rfl ?_
 generalize (rushlightref13_fields.O w.heap.size).foldl World.alloc w = W at HB HO ⊢
 by_cases h1 : a0 < 1
 ·
  have b1 : decide (a0 < 1) = true := decide_eq_true h1
  have hr : r = [] := by
   have := HF.out
   unfold rushlightref13_fields.f at this
   rw [Option.bind_some, if_pos h1] at this
   exact (Option.some.inj this).symm
  subst hr
  go_wp2
  go_ret
  exact ⟨_, rfl, Kd.V_nil _ _ _ _ _, HB.out⟩
 ·
  have b1 : decide (a0 < 1) = false := decide_eq_false h1
  by_cases h2 : a0 > 12
  ·
   have b2 : decide (a0 > 12) = true := decide_eq_true h2
   have hr : r = [] := by
    have := HF.out
    unfold rushlightref13_fields.f at this
    rw [Option.bind_some, if_neg h1, if_pos h2] at this
    exact (Option.some.inj this).symm
   subst hr
   go_wp2
   go_ret
   exact ⟨_, rfl, Kd.V_nil _ _ _ _ _, HB.out⟩
  ·
   have b2 : decide (a0 > 12) = false := decide_eq_false h2
   obtain ⟨j, rfl⟩ : ∃ j : Nat, a0 = ((j + 1 : Nat) : Int) := ⟨(a0 - 1).toNat, by omega⟩
   have hj : j < 12 := by omega
   have hall := rushlightref13_fields.all ⟨j, hj⟩
   obtain rfl : rushlightref13_fields.T.getD j [] = r := Option.some.inj (hall.1.symm.trans HF.out)
   have hrow : W.heap[w.heap.size + j]? = some (.cells (bools (rushlightref13_fields.T.getD j [])).toArray 4 (0, 0)) := HO.out j _ (by
    unfold rushlightref13_fields.O
    have hl : j < rushlightref13_fields.T.length := hj
    rw [List.getElem?_append_left (by rw [List.length_map]; exact hl), List.getElem?_map, List.getElem?_eq_getElem hl, List.getD_eq_getElem?_getD, List.getElem?_eq_getElem hl]; rfl)
   have y0 : W.cell? ⟨w.heap.size + 12, j + 1, none⟩ = some (.slice (some ⟨w.heap.size + j, 0, none⟩) 10 10) := by
    have h12 := HO.out 12 _ (show (rushlightref13_fields.O w.heap.size)[12]? = some (.cells (Value.slice none 0 0 :: (List.range 12).map fun i => Value.slice (some ⟨w.heap.size + i, 0, none⟩) 10 10).toArray 41) from rfl)
    rw [blk_cell h12]
    simp [hj]
   have p1 : (0 : Int) ≤ ((j + 1 : Nat) : Int) := Int.natCast_nonneg _
   have p2 : ((j + 1 : Nat) : Int) < 13 := by omega
   have HR := Aside0.mk (rushlightref13_fields.row hrow hall.2 (Nat.le_add_right w.heap.size j))
   have y1 : W.cell? ⟨w.heap.size + 1 + 1 + 1 + 1 + 1 + 1 + 1 + 1 + 1 + 1 + 1 + 1, j + 1, none⟩ = some (.slice (some ⟨w.heap.size + j, 0, none⟩) 10 10) := y0
   clear hall hrow HO h1 h2 HF y0
   go_wp2
   go_ret
   exact ⟨_, rfl, Kd.R_V HR.out, HB.out⟩


/-! ### rushlightref13_Uses: function 40 -/
mutual
def rushlightref13_Uses.j0 : Nat → List Int → List Bool → Bool → Int → Int → Int → Int → Int → Int → Int → Int → Int → List Int → Bool → Option (List Int)
 | 0, _, _, _, _, _, _, _, _, _, _, _, _, _, _ => none
 | k + 1, x3, x4, x21, x303000, x303001, x303002, x303003, x303004, x303005, x303006, x303007, x303008, x303009, x303010 => if x21 = true then (if x3.length < 17592186044416 then (rushlightref13_Uses.j1 k (x3 ++ [x303002]) x4 x303000 x303001 x303002 x303003 x303004 x303005 x303006 x303007 x303008 x303009 x303010) else (none)) else (rushlightref13_Uses.j1 k x3 x4 x303000 x303001 x303002 x303003 x303004 x303005 x303006 x303007 x303008 x303009 x303010)
def rushlightref13_Uses.j1 : Nat → List Int → List Bool → Int → Int → Int → Int → Int → Int → Int → Int → Int → List Int → Bool → Option (List Int)
 | 0, _, _, _, _, _, _, _, _, _, _, _, _, _ => none
 | k + 1, x3, x4, x303000, x303001, x303002, x303003, x303004, x303005, x303006, x303007, x303008, x303009, x303010 => if (x4.length : Int) > 0 then (if 2 < (x4.length : Int) then (if rdOf false x4 2 = true then (rushlightref13_Uses.j2 k x3 x4 (x303003 != (-1)) x303000 x303001 x303002 x303003 x303004 x303005 x303006 x303007 x303008 x303009 x303010) else (rushlightref13_Uses.j2 k x3 x4 false x303000 x303001 x303002 x303003 x303004 x303005 x303006 x303007 x303008 x303009 x303010)) else (none)) else (rushlightref13_Uses.j2 k x3 x4 false x303000 x303001 x303002 x303003 x303004 x303005 x303006 x303007 x303008 x303009 x303010)
def rushlightref13_Uses.j2 : Nat → List Int → List Bool → Bool → Int → Int → Int → Int → Int → Int → Int → Int → Int → List Int → Bool → Option (List Int)
 | 0, _, _, _, _, _, _, _, _, _, _, _, _, _, _ => none
 | k + 1, x3, x4, x39, x303000, x303001, x303002, x303003, x303004, x303005, x303006, x303007, x303008, x303009, x303010 => if x39 = true then (if x3.length < 17592186044416 then (rushlightref13_Uses.j3 k (x3 ++ [x303003]) x4 x303000 x303001 x303002 x303003 x303004 x303005 x303006 x303007 x303008 x303009 x303010) else (none)) else (rushlightref13_Uses.j3 k x3 x4 x303000 x303001 x303002 x303003 x303004 x303005 x303006 x303007 x303008 x303009 x303010)
def rushlightref13_Uses.j3 : Nat → List Int → List Bool → Int → Int → Int → Int → Int → Int → Int → Int → Int → List Int → Bool → Option (List Int)
 | 0, _, _, _, _, _, _, _, _, _, _, _, _, _ => none
 | k + 1, x3, x4, x303000, x303001, x303002, x303003, x303004, x303005, x303006, x303007, x303008, x303009, x303010 => rushlightref13_Uses.l0 k x3 x4 0 x303000 x303001 x303002 x303003 x303004 x303005 x303006 x303007 x303008 x303009 x303010
def rushlightref13_Uses.l0 : Nat → List Int → List Bool → Int → Int → Int → Int → Int → Int → Int → Int → Int → Int → List Int → Bool → Option (List Int)
 | 0, _, _, _, _, _, _, _, _, _, _, _, _, _, _ => none
 | k + 1, x3, x4, x5, x303000, x303001, x303002, x303003, x303004, x303005, x303006, x303007, x303008, x303009, x303010 => if (x4.length : Int) > 0 then (if 8 < (x4.length : Int) then (if rdOf false x4 8 = true then (rushlightref13_Uses.j5 k x3 x4 x5 (decide (x5 < (x303009.length : Int))) x303000 x303001 x303002 x303003 x303004 x303005 x303006 x303007 x303008 x303009 x303010) else (rushlightref13_Uses.j5 k x3 x4 x5 false x303000 x303001 x303002 x303003 x303004 x303005 x303006 x303007 x303008 x303009 x303010)) else (none)) else (rushlightref13_Uses.j5 k x3 x4 x5 false x303000 x303001 x303002 x303003 x303004 x303005 x303006 x303007 x303008 x303009 x303010)
def rushlightref13_Uses.j5 : Nat → List Int → List Bool → Int → Bool → Int → Int → Int → Int → Int → Int → Int → Int → Int → List Int → Bool → Option (List Int)
 | 0, _, _, _, _, _, _, _, _, _, _, _, _, _, _, _ => none
 | k + 1, x3, x4, x5, x59, x303000, x303001, x303002, x303003, x303004, x303005, x303006, x303007, x303008, x303009, x303010 => if x59 = true then (if 0 ≤ x5 then (if x5 < (x303009.length : Int) then (if (rd x303009 x5) = (-1) then (rushlightref13_Uses.l0 k x3 x4 (wrap64 (x5 + 1)) x303000 x303001 x303002 x303003 x303004 x303005 x303006 x303007 x303008 x303009 x303010) else (if x3.length < 17592186044416 then (rushlightref13_Uses.l0 k (x3 ++ [rd x303009 x5]) x4 (wrap64 (x5 + 1)) x303000 x303001 x303002 x303003 x303004 x303005 x303006 x303007 x303008 x303009 x303010) else (none))) else (none)) else (none)) else (some x3)
end
def rushlightref13_Uses.f (k : Nat) (a0_0 : Int) (a0_1 : Int) (a0_2 : Int) (a0_3 : Int) (a0_4 : Int) (a0_5 : Int) (a0_6 : Int) (a0_7 : Int) (a0_8 : Int) (l0_9 : List Int) (a0_10 : Bool) : Option (List Int) := (rushlightref13_fields.f a0_0).bind fun t303 => (if (t303.length : Int) > 0 then (if 1 < (t303.length : Int) then (if rdOf false t303 1 = true then (rushlightref13_Uses.j0 k ([] : List Int) t303 (a0_2 != (-1)) a0_0 a0_1 a0_2 a0_3 a0_4 a0_5 a0_6 a0_7 a0_8 l0_9 a0_10) else (rushlightref13_Uses.j0 k ([] : List Int) t303 false a0_0 a0_1 a0_2 a0_3 a0_4 a0_5 a0_6 a0_7 a0_8 l0_9 a0_10)) else (none)) else (rushlightref13_Uses.j0 k ([] : List Int) t303 false a0_0 a0_1 a0_2 a0_3 a0_4 a0_5 a0_6 a0_7 a0_8 l0_9 a0_10))
set_option maxHeartbeats 8000000 in
set_option maxRecDepth 100000 in
theorem rushlightref13_Uses.calls (k : Nat) (a0_0 : Int) (a0_1 : Int) (a0_2 : Int) (a0_3 : Int) (a0_4 : Int) (a0_5 : Int) (a0_6 : Int) (a0_7 : Int) (a0_8 : Int) (A0_9 : Option Addr) (c0_9 : Nat) (l0_9 : List Int) (a0_10 : Bool) (r : List Int) (w : World) (hr0_9 : Kd.C (Kd.int .i64) w A0_9 l0_9.length l0_9) (hc0_9 : l0_9.length ≤ c0_9) (h : rushlightref13_Uses.f k a0_0 a0_1 a0_2 a0_3 a0_4 a0_5 a0_6 a0_7 a0_8 l0_9 a0_10 = some r) :
  Calls Try.prog 40 #[.agg #[.int .i64 a0_0, .int .i64 a0_1, .int .i64 a0_2, .int .i64 a0_3, .int .i64 a0_4, .int .i64 a0_5, .int .i64 a0_6, .int .i64 a0_7, .int .u32 a0_8, .slice A0_9 l0_9.length c0_9, .bool a0_10]] w fun e w' => ∃ v0_ : Value, e = .returned (v0_) ∧ Kd.R (Kd.int .i64) 3 w' w.heap.size (fun _ => True) v0_ r ∧ Below w.heap.size w w' := by
 have hu84 := Try.underlying84
 have HR0_9 := Aside0.mk hr0_9
 have HC0_9 := Aside0.mk hc0_9
 clear hr0_9 hc0_9
 have HB := Aside0.mk (Below.refl w.heap.size w)
 have H : ((rushlightref13_fields.f a0_0).bind fun t303 => (if (t303.length : Int) > 0 then (if 1 < (t303.length : Int) then (if rdOf false t303 1 = true then (rushlightref13_Uses.j0 k ([] : List Int) t303 (a0_2 != (-1)) a0_0 a0_1 a0_2 a0_3 a0_4 a0_5 a0_6 a0_7 a0_8 l0_9 a0_10) else (rushlightref13_Uses.j0 k ([] : List Int) t303 false a0_0 a0_1 a0_2 a0_3 a0_4 a0_5 a0_6 a0_7 a0_8 l0_9 a0_10)) else (none)) else (rushlightref13_Uses.j0 k ([] : List Int) t303 false a0_0 a0_1 a0_2 a0_3 a0_4 a0_5 a0_6 a0_7 a0_8 l0_9 a0_10))) = some r := h
 clear h
 replace H := Option.bind_eq_some_iff.mp H
 obtain ⟨t303, A20, H⟩ := H
 replace H : (if (t303.length : Int) > 0 then (if 1 < (t303.length : Int) then (if rdOf false t303 1 = true then (rushlightref13_Uses.j0 k ([] : List Int) t303 (a0_2 != (-1)) a0_0 a0_1 a0_2 a0_3 a0_4 a0_5 a0_6 a0_7 a0_8 l0_9 a0_10) else (rushlightref13_Uses.j0 k ([] : List Int) t303 false a0_0 a0_1 a0_2 a0_3 a0_4 a0_5 a0_6 a0_7 a0_8 l0_9 a0_10)) else (none)) else (rushlightref13_Uses.j0 k ([] : List Int) t303 false a0_0 a0_1 a0_2 a0_3 a0_4 a0_5 a0_6 a0_7 a0_8 l0_9 a0_10)) = some r := H
 have A2 := Aside0.mk A20
 clear A20
 have HC3 := Aside0.mk H
 clear H
 go_enter Try.func40, Try.ntmps40
 go_upto_region 3 with (first | ((with_reducible refine gate_dst (N := 1) rfl ?_); (try (refine gate_guard (by rfl) ?_; dsimp only)); refine box_event ?hg (N := 1) ?hd (cs := #[.int .i64 a0_0, .int .i64 a0_1, .int .i64 a0_2, .int .i64 a0_3, .int .i64 a0_4, .int .i64 a0_5, .int .i64 a0_6, .int .i64 a0_7, .int .u32 a0_8, .slice A0_9 l0_9.length c0_9, .bool a0_10]) (t := 84) ?hr ?_; (case hd => rfl); (case hg => rfl); (case hr => first | (go_simp; done) | (go_simp; rfl)); intro gb302 hg w4 hbox hb; have n0_ := Aside0.mk (below_step (by repeat (first | (with_reducible first | exact HB.out | apply below_alloc | apply pw_below_drewN | apply below_drew1) | exact HB.out)) hb); have n1_ := Aside0.mk (hbox); have n2_ := Aside0.mk ((by rw [hg]; exact (below_size (by repeat (first | (with_reducible first | exact HB.out | apply below_alloc | apply pw_below_drewN | apply below_drew1) | exact HB.out))) : w.heap.size ≤ gb302)); have n3_ := Aside0.mk ((by rw [hg]; exact (below_size (by repeat (first | (with_reducible first | exact HB.out | apply below_alloc | apply pw_below_drewN | apply below_drew1) | exact HB.out))) : w.heap.size ≤ gb302)); clear HB; have HB := n0_; have BK302 := n1_; have GW302 := n2_; have GE302 := n3_; clear n0_ n1_ n2_ n3_; clear hb hbox hg; have hcz5_0 : w4.cell? ⟨gb302, 0, none⟩ = some (.int .i64 a0_0) := (blk_cell BK302.out 0).trans rfl; have hcz5_1 : w4.cell? ⟨gb302, 1, none⟩ = some (.int .i64 a0_1) := (blk_cell BK302.out 1).trans rfl; have hcz5_2 : w4.cell? ⟨gb302, 2, none⟩ = some (.int .i64 a0_2) := (blk_cell BK302.out 2).trans rfl; have hcz5_3 : w4.cell? ⟨gb302, 3, none⟩ = some (.int .i64 a0_3) := (blk_cell BK302.out 3).trans rfl; have hcz5_4 : w4.cell? ⟨gb302, 4, none⟩ = some (.int .i64 a0_4) := (blk_cell BK302.out 4).trans rfl; have hcz5_5 : w4.cell? ⟨gb302, 5, none⟩ = some (.int .i64 a0_5) := (blk_cell BK302.out 5).trans rfl; have hcz5_6 : w4.cell? ⟨gb302, 6, none⟩ = some (.int .i64 a0_6) := (blk_cell BK302.out 6).trans rfl; have hcz5_7 : w4.cell? ⟨gb302, 7, none⟩ = some (.int .i64 a0_7) := (blk_cell BK302.out 7).trans rfl; have hcz5_8 : w4.cell? ⟨gb302, 8, none⟩ = some (.int .u32 a0_8) := (blk_cell BK302.out 8).trans rfl; have hcz5_9 : w4.cell? ⟨gb302, 9, none⟩ = some (.slice A0_9 l0_9.length c0_9) := (blk_cell BK302.out 9).trans rfl; have hcz5_10 : w4.cell? ⟨gb302, 10, none⟩ = some (.bool a0_10) := (blk_cell BK302.out 10).trans rfl; have hfz5_0 := blk_frozen BK302.out 0; have hfz5_1 := blk_frozen BK302.out 1; have hfz5_2 := blk_frozen BK302.out 2; have hfz5_3 := blk_frozen BK302.out 3; have hfz5_4 := blk_frozen BK302.out 4; have hfz5_5 := blk_frozen BK302.out 5; have hfz5_6 := blk_frozen BK302.out 6; have hfz5_7 := blk_frozen BK302.out 7; have hfz5_8 := blk_frozen BK302.out 8; have hfz5_9 := blk_frozen BK302.out 9; have hfz5_10 := blk_frozen BK302.out 10) | ((with_reducible refine gate_callee (f := 70) rfl ?_); refine goesL_ (some 8) rfl rfl Try.func70 (by kernel_rfl) rfl #[.int .i64 a0_0] rfl (by (try simp only [List.map_toArray, List.map_cons, List.map_nil]); first | done | rfl | (simp only [List.length_drop, List.length_take]; rfl)) ?_; (with_reducible refine (rushlightref13_fields.calls a0_0 t303 _ A2.out).mono ?_); rintro e w6 ⟨v304, rfl, ho0, hb⟩; refine ⟨_, rfl, ?_⟩; have n0_ := Aside0.mk (Kd.V_lower (Kd.V_mono (ok' := fun k_ => k_ ≠ gb302) ho0 (fun k_ hk_ => (Kd.freshB (g := gb302) (o := .cells #[.int .i64 a0_0, .int .i64 a0_1, .int .i64 a0_2, .int .i64 a0_3, .int .i64 a0_4, .int .i64 a0_5, .int .i64 a0_6, .int .i64 a0_7, .int .u32 a0_8, .slice A0_9 l0_9.length c0_9, .bool a0_10] 84 (0, 0)) (by (with_reducible repeat (first | refine blk_drewN ?_ _ | refine blk_drew ?_ | refine blk_alloc ?_ _)); exact BK302.out) k_ hk_))) (below_size (by repeat (first | (with_reducible first | exact HB.out | apply below_alloc | apply pw_below_drewN | apply below_drew1 | refine below_set ?_ GE302.out) | exact HB.out)))); have n1_ := Aside0.mk (blk_below (g := gb302) (o := .cells #[.int .i64 a0_0, .int .i64 a0_1, .int .i64 a0_2, .int .i64 a0_3, .int .i64 a0_4, .int .i64 a0_5, .int .i64 a0_6, .int .i64 a0_7, .int .u32 a0_8, .slice A0_9 l0_9.length c0_9, .bool a0_10] 84 (0, 0)) (by (with_reducible repeat (first | refine blk_drewN ?_ _ | refine blk_drew ?_ | refine blk_alloc ?_ _)); exact BK302.out) hb); have n2_ := Aside0.mk (below_step (by repeat (first | (with_reducible first | exact HB.out | apply below_alloc | apply pw_below_drewN | apply below_drew1 | refine below_set ?_ GE302.out) | exact HB.out)) hb); clear BK302; clear HB; have HO305 := n0_; have BK302 := n1_; have HB := n2_; clear n0_ n1_ n2_; (try clear hb); (try clear hb2); (try clear hk); (try clear hi); (try clear ho0)))
 (try simp only [Act.put, List.setIfInBounds_toArray, List.set_cons_zero, List.set_cons_succ])
 go_cut [21] (fun v21 wc => ∃ (kq : Nat) (x21_2 : Bool), v21 = .bool x21_2 ∧ Aside0 (rushlightref13_Uses.j0 kq ([] : List Int) t303 x21_2 a0_0 a0_1 a0_2 a0_3 a0_4 a0_5 a0_6 a0_7 a0_8 l0_9 a0_10 = some r) ∧ Aside0 (kq ≤ k) ∧ Aside0 (Kd.R (Kd.int .i64) 3 wc w.heap.size (fun _ => True) (.slice none 0 0) ([] : List Int)) ∧ Aside0 (Kd.V Kd.bool 4 wc w.heap.size (fun k_ => some k_ ≠ ((.slice none 0 0) : Value).ownBlock ∧ k_ ≠ gb302) v304 t303) ∧ Aside0 (wc.heap[gb302]? = some (.cells #[.int .i64 a0_0, .int .i64 a0_1, .int .i64 a0_2, .int .i64 a0_3, .int .i64 a0_4, .int .i64 a0_5, .int .i64 a0_6, .int .i64 a0_7, .int .u32 a0_8, (.slice A0_9 l0_9.length c0_9), .bool a0_10] 84 (0, 0))) ∧ Aside0 (Below w.heap.size w wc))
 case first =>
  have H := HC3.out
  clear HC3
  by_cases c7 : (t303.length : Int) > 0
  ·
   rw [if_pos c7] at H
   have c7b0 : decide (0 < (t303.length : Int)) = true := decide_eq_true c7
   have c7b1 : decide (0 < t303.length) = true := decide_eq_true (by omega)
   clear c7
   (first | rw [c7b0] | (simp only [i64_w, i32_w]; rw [c7b0]) | skip)
   by_cases c8 : 1 < (t303.length : Int)
   ·
    rw [if_pos c8] at H
    have c8b0 : decide (1 < (t303.length : Int)) = true := decide_eq_true c8
    have c8b1 : decide (1 < t303.length) = true := decide_eq_true (by omega)
    clear c8
    obtain ⟨bq9, hbq9⟩ : ∃ b_ : Bool, b_ = (rdOf false t303 1) := ⟨_, rfl⟩
    replace H : (if bq9 = true then (rushlightref13_Uses.j0 k ([] : List Int) t303 (a0_2 != (-1)) a0_0 a0_1 a0_2 a0_3 a0_4 a0_5 a0_6 a0_7 a0_8 l0_9 a0_10) else (rushlightref13_Uses.j0 k ([] : List Int) t303 false a0_0 a0_1 a0_2 a0_3 a0_4 a0_5 a0_6 a0_7 a0_8 l0_9 a0_10)) = some r := by rw [← hbq9] at H; exact H
    have Nbq9 := Aside0.mk hbq9
    clear hbq9
    by_cases c10 : bq9 = true
    ·
     subst c10
     have H1 : (rushlightref13_Uses.j0 k ([] : List Int) t303 (a0_2 != (-1)) a0_0 a0_1 a0_2 a0_3 a0_4 a0_5 a0_6 a0_7 a0_8 l0_9 a0_10) = some r := by rw [if_pos rfl] at H; exact H
     clear H
     have H := H1
     clear H1
     have H' := Aside0.mk H
     clear H
     obtain ⟨Ao11, co11, eo11⟩ := Kd.V_slice HO305.out
     subst eo11
     have p306 : 0 ≤ (1 : Int) := (by omega)
     have q306 : 1 < (t303.length : Int) := of_decide_eq_true (by first | (with_reducible assumption) | assumption)
     obtain ⟨ad306, e306, hx306_0⟩ := Kd.at_bool (Kd.V_reads' HO305.out).2.2 1 p306 q306
     (try rw [← Nbq9.out] at hx306_0)
     cases e306
     (try simp only [show (1 : Int).toNat = 1 from rfl, Nat.reduceMul, Nat.reduceEqDiff, Go.Addr.add, ↓reduceIte] at hx306_0)
     have qi306 : (1 < t303.length) = True := eq_true (by omega)
     (try rw [show ((1 : Int)).toNat = 1 from rfl] at hx306_0)
     replace p306 := eq_true p306
     replace q306 := eq_true q306
     have hcz12_0 : w6.cell? ⟨gb302, 0, none⟩ = some (.int .i64 a0_0) := (blk_cell BK302.out 0).trans rfl
     have hcz12_1 : w6.cell? ⟨gb302, 1, none⟩ = some (.int .i64 a0_1) := (blk_cell BK302.out 1).trans rfl
     have hcz12_2 : w6.cell? ⟨gb302, 2, none⟩ = some (.int .i64 a0_2) := (blk_cell BK302.out 2).trans rfl
     have hcz12_3 : w6.cell? ⟨gb302, 3, none⟩ = some (.int .i64 a0_3) := (blk_cell BK302.out 3).trans rfl
     have hcz12_4 : w6.cell? ⟨gb302, 4, none⟩ = some (.int .i64 a0_4) := (blk_cell BK302.out 4).trans rfl
     have hcz12_5 : w6.cell? ⟨gb302, 5, none⟩ = some (.int .i64 a0_5) := (blk_cell BK302.out 5).trans rfl
     have hcz12_6 : w6.cell? ⟨gb302, 6, none⟩ = some (.int .i64 a0_6) := (blk_cell BK302.out 6).trans rfl
     have hcz12_7 : w6.cell? ⟨gb302, 7, none⟩ = some (.int .i64 a0_7) := (blk_cell BK302.out 7).trans rfl
     have hcz12_8 : w6.cell? ⟨gb302, 8, none⟩ = some (.int .u32 a0_8) := (blk_cell BK302.out 8).trans rfl
     have hcz12_9 : w6.cell? ⟨gb302, 9, none⟩ = some (.slice A0_9 l0_9.length c0_9) := (blk_cell BK302.out 9).trans rfl
     have hcz12_10 : w6.cell? ⟨gb302, 10, none⟩ = some (.bool a0_10) := (blk_cell BK302.out 10).trans rfl
     have hfz12_0 := blk_frozen BK302.out 0
     have hfz12_1 := blk_frozen BK302.out 1
     have hfz12_2 := blk_frozen BK302.out 2
     have hfz12_3 := blk_frozen BK302.out 3
     have hfz12_4 := blk_frozen BK302.out 4
     have hfz12_5 := blk_frozen BK302.out 5
     have hfz12_6 := blk_frozen BK302.out 6
     have hfz12_7 := blk_frozen BK302.out 7
     have hfz12_8 := blk_frozen BK302.out 8
     have hfz12_9 := blk_frozen BK302.out 9
     have hfz12_10 := blk_frozen BK302.out 10
     go_wp2
     go_meet
     case rel => exact ⟨_, ((a0_2 != (-1))), (by first | rfl | (simp; done) | (simp [*]; done)), H', ⟨by first | omega | exact Nat.le_refl _⟩, ⟨by first | exact Kd.R_nil _ _ _ _ _ | exact Kd.N_nil _ _ _ _ _ | exact Kd.V_nil _ _ _ _ _ | exact Kd.Q_nil _ _ _ _ _ | exact Kd.S_nil _ _ _ _ _⟩, ⟨by (with_reducible repeat (first | apply Kd.V_alloc | apply Kd.V_drewN | apply Kd.V_drew)); exact Kd.V_mono HO305.out (fun _ hk => ⟨(by simp [Value.ownBlock]), hk⟩)⟩, ⟨by (with_reducible repeat (first | refine blk_drewN ?_ _ | refine blk_drew ?_ | refine blk_alloc ?_ _)); exact BK302.out⟩, ⟨by repeat (first | (with_reducible first | exact HB.out | apply below_alloc | apply pw_below_drewN | apply below_drew1 | refine below_set ?_ GE302.out) | exact HB.out)⟩⟩
    ·
     replace c10 := Bool.eq_false_iff.mpr c10
     subst c10
     have H1 : (rushlightref13_Uses.j0 k ([] : List Int) t303 false a0_0 a0_1 a0_2 a0_3 a0_4 a0_5 a0_6 a0_7 a0_8 l0_9 a0_10) = some r := by rw [if_neg (show ¬ (false = true) by decide)] at H; exact H
     clear H
     have H := H1
     clear H1
     have H' := Aside0.mk H
     clear H
     obtain ⟨Ao13, co13, eo13⟩ := Kd.V_slice HO305.out
     subst eo13
     have p306 : 0 ≤ (1 : Int) := (by omega)
     have q306 : 1 < (t303.length : Int) := of_decide_eq_true (by first | (with_reducible assumption) | assumption)
     obtain ⟨ad306, e306, hx306_0⟩ := Kd.at_bool (Kd.V_reads' HO305.out).2.2 1 p306 q306
     (try rw [← Nbq9.out] at hx306_0)
     cases e306
     (try simp only [show (1 : Int).toNat = 1 from rfl, Nat.reduceMul, Nat.reduceEqDiff, Go.Addr.add, ↓reduceIte] at hx306_0)
     have qi306 : (1 < t303.length) = True := eq_true (by omega)
     (try rw [show ((1 : Int)).toNat = 1 from rfl] at hx306_0)
     replace p306 := eq_true p306
     replace q306 := eq_true q306
     go_wp2
     go_meet
     case rel => exact ⟨_, (false), (by first | rfl | (simp; done) | (simp [*]; done)), H', ⟨by first | omega | exact Nat.le_refl _⟩, ⟨by first | exact Kd.R_nil _ _ _ _ _ | exact Kd.N_nil _ _ _ _ _ | exact Kd.V_nil _ _ _ _ _ | exact Kd.Q_nil _ _ _ _ _ | exact Kd.S_nil _ _ _ _ _⟩, ⟨by (with_reducible repeat (first | apply Kd.V_alloc | apply Kd.V_drewN | apply Kd.V_drew)); exact Kd.V_mono HO305.out (fun _ hk => ⟨(by simp [Value.ownBlock]), hk⟩)⟩, ⟨by (with_reducible repeat (first | refine blk_drewN ?_ _ | refine blk_drew ?_ | refine blk_alloc ?_ _)); exact BK302.out⟩, ⟨by repeat (first | (with_reducible first | exact HB.out | apply below_alloc | apply pw_below_drewN | apply below_drew1 | refine below_set ?_ GE302.out) | exact HB.out)⟩⟩
   ·
    rw [if_neg c8] at H
    exact absurd H (by simp)
  ·
   rw [if_neg c7] at H
   have c7b0 : decide (0 < (t303.length : Int)) = false := decide_eq_false c7
   have c7b1 : decide (0 < t303.length) = false := decide_eq_false (by omega)
   clear c7
   (first | rw [c7b0] | (simp only [i64_w, i32_w]; rw [c7b0]) | skip)
   have H' := Aside0.mk H
   clear H
   obtain ⟨Ao14, co14, eo14⟩ := Kd.V_slice HO305.out
   subst eo14
   go_wp2
   go_meet
   case rel => exact ⟨_, (false), (by first | rfl | (simp; done) | (simp [*]; done)), H', ⟨by first | omega | exact Nat.le_refl _⟩, ⟨by first | exact Kd.R_nil _ _ _ _ _ | exact Kd.N_nil _ _ _ _ _ | exact Kd.V_nil _ _ _ _ _ | exact Kd.Q_nil _ _ _ _ _ | exact Kd.S_nil _ _ _ _ _⟩, ⟨by (with_reducible repeat (first | apply Kd.V_alloc | apply Kd.V_drewN | apply Kd.V_drew)); exact Kd.V_mono HO305.out (fun _ hk => ⟨(by simp [Value.ownBlock]), hk⟩)⟩, ⟨by (with_reducible repeat (first | refine blk_drewN ?_ _ | refine blk_drew ?_ | refine blk_alloc ?_ _)); exact BK302.out⟩, ⟨by repeat (first | (with_reducible first | exact HB.out | apply below_alloc | apply pw_below_drewN | apply below_drew1 | refine below_set ?_ GE302.out) | exact HB.out)⟩⟩
 case rest =>
  clear HC3
  obtain ⟨kq, x21_2, rfl, HA, HJ2, HO_3, HO_4, BK302, HB⟩ := hcut
  cases kq with
  | zero => exact absurd HA.out (by simp [rushlightref13_Uses.j0])
  | succ kj2 =>
   have H := HA.out
   clear HA
   simp only [rushlightref13_Uses.j0] at H
   have HC15 := Aside0.mk H
   clear H
   go_upto_if 21 with (fail)
   go_cut [3] (fun v3 wc => ∃ (kq : Nat) (x3_14 : List Int), Aside0 (rushlightref13_Uses.j1 kq x3_14 t303 a0_0 a0_1 a0_2 a0_3 a0_4 a0_5 a0_6 a0_7 a0_8 l0_9 a0_10 = some r) ∧ Aside0 (kq ≤ kj2) ∧ Aside0 (Kd.R (Kd.int .i64) 3 wc w.heap.size (fun _ => True) v3 x3_14) ∧ Aside0 (Kd.V Kd.bool 4 wc w.heap.size (fun k_ => some k_ ≠ (v3 : Value).ownBlock ∧ k_ ≠ gb302) v304 t303) ∧ Aside0 (wc.heap[gb302]? = some (.cells #[.int .i64 a0_0, .int .i64 a0_1, .int .i64 a0_2, .int .i64 a0_3, .int .i64 a0_4, .int .i64 a0_5, .int .i64 a0_6, .int .i64 a0_7, .int .u32 a0_8, (.slice A0_9 l0_9.length c0_9), .bool a0_10] 84 (0, 0))) ∧ Aside0 (Below w.heap.size w wc))
   case first =>
    have H := HC15.out
    clear HC15
    by_cases c16 : x21_2 = true
    ·
     subst c16
     have H1 : (if ([] : List Int).length < 17592186044416 then (rushlightref13_Uses.j1 kj2 (([] : List Int) ++ [a0_2]) t303 a0_0 a0_1 a0_2 a0_3 a0_4 a0_5 a0_6 a0_7 a0_8 l0_9 a0_10) else (none)) = some r := by rw [if_pos rfl] at H; exact H
     clear H
     have H := H1
     clear H1
     by_cases c17 : ([] : List Int).length < 17592186044416
     ·
      rw [if_pos c17] at H
      have LMc17 := Aside0.mk c17
      clear c17
      obtain ⟨y307, hy307⟩ : ∃ y_ : List Int, y_ = (([] : List Int) ++ [a0_2]) := ⟨_, rfl⟩
      replace H : (rushlightref13_Uses.j1 kj2 y307 t303 a0_0 a0_1 a0_2 a0_3 a0_4 a0_5 a0_6 a0_7 a0_8 l0_9 a0_10) = some r := by first | (rw [hy307]; with_reducible exact H) | (have H2_ := (Option.bind_some _ _).symm.trans H; rw [hy307]; with_reducible exact H2_) | (have H2_ := (Option.bind_some _ _).symm.trans H; with_reducible exact H2_) | with_reducible exact H | (rw [hy307]; exact H) | exact H
      have Ny307 := Aside0.mk hy307
      clear hy307
      have H' := Aside0.mk H
      clear H
      have hcz18_0 : wc.cell? ⟨gb302, 0, none⟩ = some (.int .i64 a0_0) := (blk_cell BK302.out 0).trans rfl
      have hcz18_1 : wc.cell? ⟨gb302, 1, none⟩ = some (.int .i64 a0_1) := (blk_cell BK302.out 1).trans rfl
      have hcz18_2 : wc.cell? ⟨gb302, 2, none⟩ = some (.int .i64 a0_2) := (blk_cell BK302.out 2).trans rfl
      have hcz18_3 : wc.cell? ⟨gb302, 3, none⟩ = some (.int .i64 a0_3) := (blk_cell BK302.out 3).trans rfl
      have hcz18_4 : wc.cell? ⟨gb302, 4, none⟩ = some (.int .i64 a0_4) := (blk_cell BK302.out 4).trans rfl
      have hcz18_5 : wc.cell? ⟨gb302, 5, none⟩ = some (.int .i64 a0_5) := (blk_cell BK302.out 5).trans rfl
      have hcz18_6 : wc.cell? ⟨gb302, 6, none⟩ = some (.int .i64 a0_6) := (blk_cell BK302.out 6).trans rfl
      have hcz18_7 : wc.cell? ⟨gb302, 7, none⟩ = some (.int .i64 a0_7) := (blk_cell BK302.out 7).trans rfl
      have hcz18_8 : wc.cell? ⟨gb302, 8, none⟩ = some (.int .u32 a0_8) := (blk_cell BK302.out 8).trans rfl
      have hcz18_9 : wc.cell? ⟨gb302, 9, none⟩ = some (.slice A0_9 l0_9.length c0_9) := (blk_cell BK302.out 9).trans rfl
      have hcz18_10 : wc.cell? ⟨gb302, 10, none⟩ = some (.bool a0_10) := (blk_cell BK302.out 10).trans rfl
      have hfz18_0 := blk_frozen BK302.out 0
      have hfz18_1 := blk_frozen BK302.out 1
      have hfz18_2 := blk_frozen BK302.out 2
      have hfz18_3 := blk_frozen BK302.out 3
      have hfz18_4 := blk_frozen BK302.out 4
      have hfz18_5 := blk_frozen BK302.out 5
      have hfz18_6 := blk_frozen BK302.out 6
      have hfz18_7 := blk_frozen BK302.out 7
      have hfz18_8 := blk_frozen BK302.out 8
      have hfz18_9 := blk_frozen BK302.out 9
      have hfz18_10 := blk_frozen BK302.out 10
      go_wp2_with (first | ((with_reducible refine gate_builtin (b := .append) (xs := #[.tmp 22, .tmp 25]) rfl ?_); (try (refine gate_guard (by rfl) ?_; dsimp only)); at_builtin; refine Kd.R_append (Kd.int .i64) (w0 := w) w.heap.size rfl (.tmp 22) (.tmp 25) 46 3 (.int .i64 0) 8 rfl Try.underlying46 info3 rfl (by decide) (by omega) (.slice none 0 0) ([] : List Int) a0_2 [.int .i64 a0_2] (fun _ => True) (fun _ => False) rfl rfl ?aP (fun _ hk => hk.elim) ?aF ?aO ?aB ?aS ?aL ?_; (case aP => exact rfl); (case aB => exact (by repeat (first | (with_reducible first | exact HB.out | apply below_alloc | apply pw_below_drewN | apply below_drew1 | refine below_set ?_ GE302.out) | exact HB.out))); (case aF => exact (fun _ _ => trivial)); (case aO => exact (by (with_reducible repeat (first | apply Kd.R_alloc | apply Kd.R_drewN | apply Kd.R_drew)); exact HO_3.out)); (case aS => exact (below_size (by repeat (first | (with_reducible first | exact HB.out | apply below_alloc | apply pw_below_drewN | apply below_drew1 | refine below_set ?_ GE302.out) | exact HB.out)))); (case aL => have := LMc17.out; omega); intro v308 w19 ho hb hg hat; rw [← Ny307.out] at ho; have n0_ := Aside0.mk (Kd.V_afterv (ok := (fun k_ => k_ ≠ gb302)) (by (with_reducible repeat (first | apply Kd.V_alloc | apply Kd.V_drewN | apply Kd.V_drew)); exact Kd.V_mono HO_4.out (fun _ hk => ⟨hk.2, hk.1⟩)) hg hat); have n1_ := Aside0.mk (blk_grown (g := gb302) (o := .cells #[.int .i64 a0_0, .int .i64 a0_1, .int .i64 a0_2, .int .i64 a0_3, .int .i64 a0_4, .int .i64 a0_5, .int .i64 a0_6, .int .i64 a0_7, .int .u32 a0_8, .slice A0_9 l0_9.length c0_9, .bool a0_10] 84 (0, 0)) (by (with_reducible repeat (first | refine blk_drewN ?_ _ | refine blk_drew ?_ | refine blk_alloc ?_ _)); exact BK302.out) hg (Kd.R_ne HO_3.out BK302.out (by decide))); have n2_ := Aside0.mk (hb); have n3_ := Aside0.mk (ho); clear HO_4; clear BK302; clear HB; clear HO_3; have HO_4 := n0_; have BK302 := n1_; have HB := n2_; have HO309 := n3_; clear n0_ n1_ n2_ n3_; clear ho hb hg hat))
      go_meet
      case rel => exact ⟨_, (y307), H', ⟨by have := HJ2.out; first | omega | exact Nat.le_refl _⟩, ⟨by (with_reducible repeat (first | apply Kd.R_alloc | apply Kd.R_drewN | apply Kd.R_drew)); exact HO309.out⟩, ⟨by (with_reducible repeat (first | apply Kd.V_alloc | apply Kd.V_drewN | apply Kd.V_drew)); exact Kd.V_mono HO_4.out (fun _ hk => ⟨hk.2, hk.1⟩)⟩, ⟨by (with_reducible repeat (first | refine blk_drewN ?_ _ | refine blk_drew ?_ | refine blk_alloc ?_ _)); exact BK302.out⟩, ⟨by repeat (first | (with_reducible first | exact HB.out | apply below_alloc | apply pw_below_drewN | apply below_drew1 | refine below_set ?_ GE302.out) | exact HB.out)⟩⟩
     ·
      rw [if_neg c17] at H
      exact absurd H (by simp)
    ·
     replace c16 := Bool.eq_false_iff.mpr c16
     subst c16
     have H1 : (rushlightref13_Uses.j1 kj2 ([] : List Int) t303 a0_0 a0_1 a0_2 a0_3 a0_4 a0_5 a0_6 a0_7 a0_8 l0_9 a0_10) = some r := by rw [if_neg (show ¬ (false = true) by decide)] at H; exact H
     clear H
     have H := H1
     clear H1
     have H' := Aside0.mk H
     clear H
     go_wp2
     go_meet
     case rel => exact ⟨_, (([] : List Int)), H', ⟨by have := HJ2.out; first | omega | exact Nat.le_refl _⟩, ⟨by (with_reducible repeat (first | apply Kd.R_alloc | apply Kd.R_drewN | apply Kd.R_drew)); exact HO_3.out⟩, ⟨by (with_reducible repeat (first | apply Kd.V_alloc | apply Kd.V_drewN | apply Kd.V_drew)); exact HO_4.out⟩, ⟨by (with_reducible repeat (first | refine blk_drewN ?_ _ | refine blk_drew ?_ | refine blk_alloc ?_ _)); exact BK302.out⟩, ⟨by repeat (first | (with_reducible first | exact HB.out | apply below_alloc | apply pw_below_drewN | apply below_drew1 | refine below_set ?_ GE302.out) | exact HB.out)⟩⟩
   case rest =>
    clear HC15
    obtain ⟨kq, x3_14, HA, HJ14, HO_3, HO_4, BK302, HB⟩ := hcut
    cases kq with
    | zero => exact absurd HA.out (by simp [rushlightref13_Uses.j1])
    | succ kj14 =>
     have H := HA.out
     clear HA
     simp only [rushlightref13_Uses.j1] at H
     have HC20 := Aside0.mk H
     clear H
     go_upto_region 5 with (fail)
     go_cut [39] (fun v39 wc => ∃ (kq : Nat) (x39_19 : Bool), v39 = .bool x39_19 ∧ Aside0 (rushlightref13_Uses.j2 kq x3_14 t303 x39_19 a0_0 a0_1 a0_2 a0_3 a0_4 a0_5 a0_6 a0_7 a0_8 l0_9 a0_10 = some r) ∧ Aside0 (kq ≤ kj14) ∧ Aside0 (Kd.R (Kd.int .i64) 3 wc w.heap.size (fun _ => True) u3 x3_14) ∧ Aside0 (Kd.V Kd.bool 4 wc w.heap.size (fun k_ => some k_ ≠ (u3 : Value).ownBlock ∧ k_ ≠ gb302) v304 t303) ∧ Aside0 (wc.heap[gb302]? = some (.cells #[.int .i64 a0_0, .int .i64 a0_1, .int .i64 a0_2, .int .i64 a0_3, .int .i64 a0_4, .int .i64 a0_5, .int .i64 a0_6, .int .i64 a0_7, .int .u32 a0_8, (.slice A0_9 l0_9.length c0_9), .bool a0_10] 84 (0, 0))) ∧ Aside0 (Below w.heap.size w wc))
     case first =>
      have H := HC20.out
      clear HC20
      by_cases c21 : (t303.length : Int) > 0
      ·
       rw [if_pos c21] at H
       have c21b0 : decide (0 < (t303.length : Int)) = true := decide_eq_true c21
       have c21b1 : decide (0 < t303.length) = true := decide_eq_true (by omega)
       clear c21
       (first | rw [c21b0] | (simp only [i64_w, i32_w]; rw [c21b0]) | skip)
       by_cases c22 : 2 < (t303.length : Int)
       ·
        rw [if_pos c22] at H
        have c22b0 : decide (2 < (t303.length : Int)) = true := decide_eq_true c22
        have c22b1 : decide (2 < t303.length) = true := decide_eq_true (by omega)
        clear c22
        obtain ⟨bq23, hbq23⟩ : ∃ b_ : Bool, b_ = (rdOf false t303 2) := ⟨_, rfl⟩
        replace H : (if bq23 = true then (rushlightref13_Uses.j2 kj14 x3_14 t303 (a0_3 != (-1)) a0_0 a0_1 a0_2 a0_3 a0_4 a0_5 a0_6 a0_7 a0_8 l0_9 a0_10) else (rushlightref13_Uses.j2 kj14 x3_14 t303 false a0_0 a0_1 a0_2 a0_3 a0_4 a0_5 a0_6 a0_7 a0_8 l0_9 a0_10)) = some r := by rw [← hbq23] at H; exact H
        have Nbq23 := Aside0.mk hbq23
        clear hbq23
        by_cases c24 : bq23 = true
        ·
         subst c24
         have H1 : (rushlightref13_Uses.j2 kj14 x3_14 t303 (a0_3 != (-1)) a0_0 a0_1 a0_2 a0_3 a0_4 a0_5 a0_6 a0_7 a0_8 l0_9 a0_10) = some r := by rw [if_pos rfl] at H; exact H
         clear H
         have H := H1
         clear H1
         have H' := Aside0.mk H
         clear H
         obtain ⟨Ao25, co25, eo25⟩ := Kd.V_slice HO_4.out
         subst eo25
         have p310 : 0 ≤ (2 : Int) := (by omega)
         have q310 : 2 < (t303.length : Int) := of_decide_eq_true (by first | (with_reducible assumption) | assumption)
         obtain ⟨ad310, e310, hx310_0⟩ := Kd.at_bool (Kd.V_reads' HO_4.out).2.2 2 p310 q310
         (try rw [← Nbq23.out] at hx310_0)
         cases e310
         (try simp only [show (2 : Int).toNat = 2 from rfl, Nat.reduceMul, Nat.reduceEqDiff, Go.Addr.add, ↓reduceIte] at hx310_0)
         have qi310 : (2 < t303.length) = True := eq_true (by omega)
         (try rw [show ((2 : Int)).toNat = 2 from rfl] at hx310_0)
         replace p310 := eq_true p310
         replace q310 := eq_true q310
         have hcz26_0 : wc.cell? ⟨gb302, 0, none⟩ = some (.int .i64 a0_0) := (blk_cell BK302.out 0).trans rfl
         have hcz26_1 : wc.cell? ⟨gb302, 1, none⟩ = some (.int .i64 a0_1) := (blk_cell BK302.out 1).trans rfl
         have hcz26_2 : wc.cell? ⟨gb302, 2, none⟩ = some (.int .i64 a0_2) := (blk_cell BK302.out 2).trans rfl
         have hcz26_3 : wc.cell? ⟨gb302, 3, none⟩ = some (.int .i64 a0_3) := (blk_cell BK302.out 3).trans rfl
         have hcz26_4 : wc.cell? ⟨gb302, 4, none⟩ = some (.int .i64 a0_4) := (blk_cell BK302.out 4).trans rfl
         have hcz26_5 : wc.cell? ⟨gb302, 5, none⟩ = some (.int .i64 a0_5) := (blk_cell BK302.out 5).trans rfl
         have hcz26_6 : wc.cell? ⟨gb302, 6, none⟩ = some (.int .i64 a0_6) := (blk_cell BK302.out 6).trans rfl
         have hcz26_7 : wc.cell? ⟨gb302, 7, none⟩ = some (.int .i64 a0_7) := (blk_cell BK302.out 7).trans rfl
         have hcz26_8 : wc.cell? ⟨gb302, 8, none⟩ = some (.int .u32 a0_8) := (blk_cell BK302.out 8).trans rfl
         have hcz26_9 : wc.cell? ⟨gb302, 9, none⟩ = some (.slice A0_9 l0_9.length c0_9) := (blk_cell BK302.out 9).trans rfl
         have hcz26_10 : wc.cell? ⟨gb302, 10, none⟩ = some (.bool a0_10) := (blk_cell BK302.out 10).trans rfl
         have hfz26_0 := blk_frozen BK302.out 0
         have hfz26_1 := blk_frozen BK302.out 1
         have hfz26_2 := blk_frozen BK302.out 2
         have hfz26_3 := blk_frozen BK302.out 3
         have hfz26_4 := blk_frozen BK302.out 4
         have hfz26_5 := blk_frozen BK302.out 5
         have hfz26_6 := blk_frozen BK302.out 6
         have hfz26_7 := blk_frozen BK302.out 7
         have hfz26_8 := blk_frozen BK302.out 8
         have hfz26_9 := blk_frozen BK302.out 9
         have hfz26_10 := blk_frozen BK302.out 10
         go_wp2
         go_meet
         case rel => exact ⟨_, ((a0_3 != (-1))), (by first | rfl | (simp; done) | (simp [*]; done)), H', ⟨by have := HJ2.out; have := HJ14.out; first | omega | exact Nat.le_refl _⟩, ⟨by (with_reducible repeat (first | apply Kd.R_alloc | apply Kd.R_drewN | apply Kd.R_drew)); exact HO_3.out⟩, ⟨by (with_reducible repeat (first | apply Kd.V_alloc | apply Kd.V_drewN | apply Kd.V_drew)); exact HO_4.out⟩, ⟨by (with_reducible repeat (first | refine blk_drewN ?_ _ | refine blk_drew ?_ | refine blk_alloc ?_ _)); exact BK302.out⟩, ⟨by repeat (first | (with_reducible first | exact HB.out | apply below_alloc | apply pw_below_drewN | apply below_drew1 | refine below_set ?_ GE302.out) | exact HB.out)⟩⟩
        ·
         replace c24 := Bool.eq_false_iff.mpr c24
         subst c24
         have H1 : (rushlightref13_Uses.j2 kj14 x3_14 t303 false a0_0 a0_1 a0_2 a0_3 a0_4 a0_5 a0_6 a0_7 a0_8 l0_9 a0_10) = some r := by rw [if_neg (show ¬ (false = true) by decide)] at H; exact H
         clear H
         have H := H1
         clear H1
         have H' := Aside0.mk H
         clear H
         obtain ⟨Ao27, co27, eo27⟩ := Kd.V_slice HO_4.out
         subst eo27
         have p310 : 0 ≤ (2 : Int) := (by omega)
         have q310 : 2 < (t303.length : Int) := of_decide_eq_true (by first | (with_reducible assumption) | assumption)
         obtain ⟨ad310, e310, hx310_0⟩ := Kd.at_bool (Kd.V_reads' HO_4.out).2.2 2 p310 q310
         (try rw [← Nbq23.out] at hx310_0)
         cases e310
         (try simp only [show (2 : Int).toNat = 2 from rfl, Nat.reduceMul, Nat.reduceEqDiff, Go.Addr.add, ↓reduceIte] at hx310_0)
         have qi310 : (2 < t303.length) = True := eq_true (by omega)
         (try rw [show ((2 : Int)).toNat = 2 from rfl] at hx310_0)
         replace p310 := eq_true p310
         replace q310 := eq_true q310
         go_wp2
         go_meet
         case rel => exact ⟨_, (false), (by first | rfl | (simp; done) | (simp [*]; done)), H', ⟨by have := HJ2.out; have := HJ14.out; first | omega | exact Nat.le_refl _⟩, ⟨by (with_reducible repeat (first | apply Kd.R_alloc | apply Kd.R_drewN | apply Kd.R_drew)); exact HO_3.out⟩, ⟨by (with_reducible repeat (first | apply Kd.V_alloc | apply Kd.V_drewN | apply Kd.V_drew)); exact HO_4.out⟩, ⟨by (with_reducible repeat (first | refine blk_drewN ?_ _ | refine blk_drew ?_ | refine blk_alloc ?_ _)); exact BK302.out⟩, ⟨by repeat (first | (with_reducible first | exact HB.out | apply below_alloc | apply pw_below_drewN | apply below_drew1 | refine below_set ?_ GE302.out) | exact HB.out)⟩⟩
       ·
        rw [if_neg c22] at H
        exact absurd H (by simp)
      ·
       rw [if_neg c21] at H
       have c21b0 : decide (0 < (t303.length : Int)) = false := decide_eq_false c21
       have c21b1 : decide (0 < t303.length) = false := decide_eq_false (by omega)
       clear c21
       (first | rw [c21b0] | (simp only [i64_w, i32_w]; rw [c21b0]) | skip)
       have H' := Aside0.mk H
       clear H
       obtain ⟨Ao28, co28, eo28⟩ := Kd.V_slice HO_4.out
       subst eo28
       go_wp2
       go_meet
       case rel => exact ⟨_, (false), (by first | rfl | (simp; done) | (simp [*]; done)), H', ⟨by have := HJ2.out; have := HJ14.out; first | omega | exact Nat.le_refl _⟩, ⟨by (with_reducible repeat (first | apply Kd.R_alloc | apply Kd.R_drewN | apply Kd.R_drew)); exact HO_3.out⟩, ⟨by (with_reducible repeat (first | apply Kd.V_alloc | apply Kd.V_drewN | apply Kd.V_drew)); exact HO_4.out⟩, ⟨by (with_reducible repeat (first | refine blk_drewN ?_ _ | refine blk_drew ?_ | refine blk_alloc ?_ _)); exact BK302.out⟩, ⟨by repeat (first | (with_reducible first | exact HB.out | apply below_alloc | apply pw_below_drewN | apply below_drew1 | refine below_set ?_ GE302.out) | exact HB.out)⟩⟩
     case rest =>
      clear HC20
      obtain ⟨kq, x39_19, rfl, HA, HJ19, HO_3, HO_4, BK302, HB⟩ := hcut
      cases kq with
      | zero => exact absurd HA.out (by simp [rushlightref13_Uses.j2])
      | succ kj19 =>
       have H := HA.out
       clear HA
       simp only [rushlightref13_Uses.j2] at H
       have HC29 := Aside0.mk H
       clear H
       go_upto_if 39 with (fail)
       go_cut [3] (fun v3 wc => ∃ (kq : Nat) (x3_28 : List Int), Aside0 (rushlightref13_Uses.j3 kq x3_28 t303 a0_0 a0_1 a0_2 a0_3 a0_4 a0_5 a0_6 a0_7 a0_8 l0_9 a0_10 = some r) ∧ Aside0 (kq ≤ kj19) ∧ Aside0 (Kd.R (Kd.int .i64) 3 wc w.heap.size (fun _ => True) v3 x3_28) ∧ Aside0 (Kd.V Kd.bool 4 wc w.heap.size (fun k_ => some k_ ≠ (v3 : Value).ownBlock ∧ k_ ≠ gb302) v304 t303) ∧ Aside0 (wc.heap[gb302]? = some (.cells #[.int .i64 a0_0, .int .i64 a0_1, .int .i64 a0_2, .int .i64 a0_3, .int .i64 a0_4, .int .i64 a0_5, .int .i64 a0_6, .int .i64 a0_7, .int .u32 a0_8, (.slice A0_9 l0_9.length c0_9), .bool a0_10] 84 (0, 0))) ∧ Aside0 (Below w.heap.size w wc))
       case first =>
        have H := HC29.out
        clear HC29
        by_cases c30 : x39_19 = true
        ·
         subst c30
         have H1 : (if x3_14.length < 17592186044416 then (rushlightref13_Uses.j3 kj19 (x3_14 ++ [a0_3]) t303 a0_0 a0_1 a0_2 a0_3 a0_4 a0_5 a0_6 a0_7 a0_8 l0_9 a0_10) else (none)) = some r := by rw [if_pos rfl] at H; exact H
         clear H
         have H := H1
         clear H1
         by_cases c31 : x3_14.length < 17592186044416
         ·
          rw [if_pos c31] at H
          have LMc31 := Aside0.mk c31
          clear c31
          obtain ⟨y311, hy311⟩ : ∃ y_ : List Int, y_ = (x3_14 ++ [a0_3]) := ⟨_, rfl⟩
          replace H : (rushlightref13_Uses.j3 kj19 y311 t303 a0_0 a0_1 a0_2 a0_3 a0_4 a0_5 a0_6 a0_7 a0_8 l0_9 a0_10) = some r := by first | (rw [hy311]; with_reducible exact H) | (have H2_ := (Option.bind_some _ _).symm.trans H; rw [hy311]; with_reducible exact H2_) | (have H2_ := (Option.bind_some _ _).symm.trans H; with_reducible exact H2_) | with_reducible exact H | (rw [hy311]; exact H) | exact H
          have Ny311 := Aside0.mk hy311
          clear hy311
          have H' := Aside0.mk H
          clear H
          have hcz32_0 : wc.cell? ⟨gb302, 0, none⟩ = some (.int .i64 a0_0) := (blk_cell BK302.out 0).trans rfl
          have hcz32_1 : wc.cell? ⟨gb302, 1, none⟩ = some (.int .i64 a0_1) := (blk_cell BK302.out 1).trans rfl
          have hcz32_2 : wc.cell? ⟨gb302, 2, none⟩ = some (.int .i64 a0_2) := (blk_cell BK302.out 2).trans rfl
          have hcz32_3 : wc.cell? ⟨gb302, 3, none⟩ = some (.int .i64 a0_3) := (blk_cell BK302.out 3).trans rfl
          have hcz32_4 : wc.cell? ⟨gb302, 4, none⟩ = some (.int .i64 a0_4) := (blk_cell BK302.out 4).trans rfl
          have hcz32_5 : wc.cell? ⟨gb302, 5, none⟩ = some (.int .i64 a0_5) := (blk_cell BK302.out 5).trans rfl
          have hcz32_6 : wc.cell? ⟨gb302, 6, none⟩ = some (.int .i64 a0_6) := (blk_cell BK302.out 6).trans rfl
          have hcz32_7 : wc.cell? ⟨gb302, 7, none⟩ = some (.int .i64 a0_7) := (blk_cell BK302.out 7).trans rfl
          have hcz32_8 : wc.cell? ⟨gb302, 8, none⟩ = some (.int .u32 a0_8) := (blk_cell BK302.out 8).trans rfl
          have hcz32_9 : wc.cell? ⟨gb302, 9, none⟩ = some (.slice A0_9 l0_9.length c0_9) := (blk_cell BK302.out 9).trans rfl
          have hcz32_10 : wc.cell? ⟨gb302, 10, none⟩ = some (.bool a0_10) := (blk_cell BK302.out 10).trans rfl
          have hfz32_0 := blk_frozen BK302.out 0
          have hfz32_1 := blk_frozen BK302.out 1
          have hfz32_2 := blk_frozen BK302.out 2
          have hfz32_3 := blk_frozen BK302.out 3
          have hfz32_4 := blk_frozen BK302.out 4
          have hfz32_5 := blk_frozen BK302.out 5
          have hfz32_6 := blk_frozen BK302.out 6
          have hfz32_7 := blk_frozen BK302.out 7
          have hfz32_8 := blk_frozen BK302.out 8
          have hfz32_9 := blk_frozen BK302.out 9
          have hfz32_10 := blk_frozen BK302.out 10
          go_wp2_with (first | ((with_reducible refine gate_builtin (b := .append) (xs := #[.tmp 40, .tmp 43]) rfl ?_); (try (refine gate_guard (by rfl) ?_; dsimp only)); at_builtin; refine Kd.R_append (Kd.int .i64) (w0 := w) w.heap.size rfl (.tmp 40) (.tmp 43) 46 3 (.int .i64 0) 8 rfl Try.underlying46 info3 rfl (by decide) (by omega) u3 x3_14 a0_3 [.int .i64 a0_3] (fun _ => True) (fun _ => False) rfl rfl ?aP (fun _ hk => hk.elim) ?aF ?aO ?aB ?aS ?aL ?_; (case aP => exact rfl); (case aB => exact (by repeat (first | (with_reducible first | exact HB.out | apply below_alloc | apply pw_below_drewN | apply below_drew1 | refine below_set ?_ GE302.out) | exact HB.out))); (case aF => exact (fun _ _ => trivial)); (case aO => exact (by (with_reducible repeat (first | apply Kd.R_alloc | apply Kd.R_drewN | apply Kd.R_drew)); exact HO_3.out)); (case aS => exact (below_size (by repeat (first | (with_reducible first | exact HB.out | apply below_alloc | apply pw_below_drewN | apply below_drew1 | refine below_set ?_ GE302.out) | exact HB.out)))); (case aL => have := LMc31.out; omega); intro v312 w33 ho hb hg hat; rw [← Ny311.out] at ho; have n0_ := Aside0.mk (Kd.V_afterv (ok := (fun k_ => k_ ≠ gb302)) (by (with_reducible repeat (first | apply Kd.V_alloc | apply Kd.V_drewN | apply Kd.V_drew)); exact Kd.V_mono HO_4.out (fun _ hk => ⟨hk.2, hk.1⟩)) hg hat); have n1_ := Aside0.mk (blk_grown (g := gb302) (o := .cells #[.int .i64 a0_0, .int .i64 a0_1, .int .i64 a0_2, .int .i64 a0_3, .int .i64 a0_4, .int .i64 a0_5, .int .i64 a0_6, .int .i64 a0_7, .int .u32 a0_8, .slice A0_9 l0_9.length c0_9, .bool a0_10] 84 (0, 0)) (by (with_reducible repeat (first | refine blk_drewN ?_ _ | refine blk_drew ?_ | refine blk_alloc ?_ _)); exact BK302.out) hg (Kd.R_ne HO_3.out BK302.out (by decide))); have n2_ := Aside0.mk (hb); have n3_ := Aside0.mk (ho); clear HO_4; clear BK302; clear HB; clear HO_3; have HO_4 := n0_; have BK302 := n1_; have HB := n2_; have HO313 := n3_; clear n0_ n1_ n2_ n3_; clear ho hb hg hat))
          go_meet
          case rel => exact ⟨_, (y311), H', ⟨by have := HJ2.out; have := HJ14.out; have := HJ19.out; first | omega | exact Nat.le_refl _⟩, ⟨by (with_reducible repeat (first | apply Kd.R_alloc | apply Kd.R_drewN | apply Kd.R_drew)); exact HO313.out⟩, ⟨by (with_reducible repeat (first | apply Kd.V_alloc | apply Kd.V_drewN | apply Kd.V_drew)); exact Kd.V_mono HO_4.out (fun _ hk => ⟨hk.2, hk.1⟩)⟩, ⟨by (with_reducible repeat (first | refine blk_drewN ?_ _ | refine blk_drew ?_ | refine blk_alloc ?_ _)); exact BK302.out⟩, ⟨by repeat (first | (with_reducible first | exact HB.out | apply below_alloc | apply pw_below_drewN | apply below_drew1 | refine below_set ?_ GE302.out) | exact HB.out)⟩⟩
         ·
          rw [if_neg c31] at H
          exact absurd H (by simp)
        ·
         replace c30 := Bool.eq_false_iff.mpr c30
         subst c30
         have H1 : (rushlightref13_Uses.j3 kj19 x3_14 t303 a0_0 a0_1 a0_2 a0_3 a0_4 a0_5 a0_6 a0_7 a0_8 l0_9 a0_10) = some r := by rw [if_neg (show ¬ (false = true) by decide)] at H; exact H
         clear H
         have H := H1
         clear H1
         have H' := Aside0.mk H
         clear H
         go_wp2
         go_meet
         case rel => exact ⟨_, (x3_14), H', ⟨by have := HJ2.out; have := HJ14.out; have := HJ19.out; first | omega | exact Nat.le_refl _⟩, ⟨by (with_reducible repeat (first | apply Kd.R_alloc | apply Kd.R_drewN | apply Kd.R_drew)); exact HO_3.out⟩, ⟨by (with_reducible repeat (first | apply Kd.V_alloc | apply Kd.V_drewN | apply Kd.V_drew)); exact HO_4.out⟩, ⟨by (with_reducible repeat (first | refine blk_drewN ?_ _ | refine blk_drew ?_ | refine blk_alloc ?_ _)); exact BK302.out⟩, ⟨by repeat (first | (with_reducible first | exact HB.out | apply below_alloc | apply pw_below_drewN | apply below_drew1 | refine below_set ?_ GE302.out) | exact HB.out)⟩⟩
       case rest =>
        clear HC29
        obtain ⟨kq, x3_28, HA, HJ28, HO_3, HO_4, BK302, HB⟩ := hcut
        cases kq with
        | zero => exact absurd HA.out (by simp [rushlightref13_Uses.j3])
        | succ kj28 =>
         have H := HA.out
         clear HA
         simp only [rushlightref13_Uses.j3] at H
         have H' := Aside0.mk H
         clear H
         go_wp2
         go_loopg [3, 5] kj28 (fun kq v3 v5 w' => ∃ (x3_5 : List Int) (x5_5 : Int), v5 = .int .i64 x5_5 ∧ Aside0 (rushlightref13_Uses.l0 kq x3_5 t303 x5_5 a0_0 a0_1 a0_2 a0_3 a0_4 a0_5 a0_6 a0_7 a0_8 l0_9 a0_10 = some r) ∧ Aside0 (kq ≤ kj28) ∧ Aside0 (Kd.R (Kd.int .i64) 3 w' w.heap.size (fun _ => True) v3 x3_5) ∧ Aside0 (Kd.V Kd.bool 4 w' w.heap.size (fun k_ => some k_ ≠ (v3 : Value).ownBlock ∧ k_ ≠ gb302) v304 t303) ∧ Aside0 (w'.heap[gb302]? = some (.cells #[.int .i64 a0_0, .int .i64 a0_1, .int .i64 a0_2, .int .i64 a0_3, .int .i64 a0_4, .int .i64 a0_5, .int .i64 a0_6, .int .i64 a0_7, .int .u32 a0_8, (.slice A0_9 l0_9.length c0_9), .bool a0_10] 84 (0, 0))) ∧ Aside0 (Below w.heap.size w w'))
         case atStart => exact ⟨(x3_28), (0), (by first | rfl | (simp; done) | (simp [*]; done)), H', ⟨Nat.le_refl _⟩, ⟨by (with_reducible repeat (first | apply Kd.R_alloc | apply Kd.R_drewN | apply Kd.R_drew)); exact HO_3.out⟩, ⟨by (with_reducible repeat (first | apply Kd.V_alloc | apply Kd.V_drewN | apply Kd.V_drew)); exact HO_4.out⟩, ⟨by (with_reducible repeat (first | refine blk_drewN ?_ _ | refine blk_drew ?_ | refine blk_alloc ?_ _)); exact BK302.out⟩, ⟨by repeat (first | (with_reducible first | exact HB.out | apply below_alloc | apply pw_below_drewN | apply below_drew1 | refine below_set ?_ GE302.out) | exact HB.out)⟩⟩
         case round =>
          clear H'
          obtain ⟨x3_5, x5_5, rfl, HA, HK5, HO_3, HO_4, BK302, HB⟩ := hrel
          cases gk with
          | zero => exact absurd HA.out (by simp [rushlightref13_Uses.l0])
          | succ k5 =>
           have H := HA.out
           clear HA
           simp only [rushlightref13_Uses.l0] at H
           have HC34 := Aside0.mk H
           clear H
           go_upto_region 8 with (fail)
           go_cut [59] (fun v59 wc => ∃ (kq : Nat) (x59_33 : Bool), v59 = .bool x59_33 ∧ Aside0 (rushlightref13_Uses.j5 kq x3_5 t303 x5_5 x59_33 a0_0 a0_1 a0_2 a0_3 a0_4 a0_5 a0_6 a0_7 a0_8 l0_9 a0_10 = some r) ∧ Aside0 (kq ≤ k5) ∧ Aside0 (Kd.R (Kd.int .i64) 3 wc w.heap.size (fun _ => True) u3 x3_5) ∧ Aside0 (Kd.V Kd.bool 4 wc w.heap.size (fun k_ => some k_ ≠ (u3 : Value).ownBlock ∧ k_ ≠ gb302) v304 t303) ∧ Aside0 (wc.heap[gb302]? = some (.cells #[.int .i64 a0_0, .int .i64 a0_1, .int .i64 a0_2, .int .i64 a0_3, .int .i64 a0_4, .int .i64 a0_5, .int .i64 a0_6, .int .i64 a0_7, .int .u32 a0_8, (.slice A0_9 l0_9.length c0_9), .bool a0_10] 84 (0, 0))) ∧ Aside0 (Below w.heap.size w wc))
           case first =>
            have H := HC34.out
            clear HC34
            by_cases c35 : (t303.length : Int) > 0
            ·
             rw [if_pos c35] at H
             have c35b0 : decide (0 < (t303.length : Int)) = true := decide_eq_true c35
             have c35b1 : decide (0 < t303.length) = true := decide_eq_true (by omega)
             clear c35
             (first | rw [c35b0] | (simp only [i64_w, i32_w]; rw [c35b0]) | skip)
             by_cases c36 : 8 < (t303.length : Int)
             ·
              rw [if_pos c36] at H
              have c36b0 : decide (8 < (t303.length : Int)) = true := decide_eq_true c36
              have c36b1 : decide (8 < t303.length) = true := decide_eq_true (by omega)
              clear c36
              obtain ⟨bq37, hbq37⟩ : ∃ b_ : Bool, b_ = (rdOf false t303 8) := ⟨_, rfl⟩
              replace H : (if bq37 = true then (rushlightref13_Uses.j5 k5 x3_5 t303 x5_5 (decide (x5_5 < (l0_9.length : Int))) a0_0 a0_1 a0_2 a0_3 a0_4 a0_5 a0_6 a0_7 a0_8 l0_9 a0_10) else (rushlightref13_Uses.j5 k5 x3_5 t303 x5_5 false a0_0 a0_1 a0_2 a0_3 a0_4 a0_5 a0_6 a0_7 a0_8 l0_9 a0_10)) = some r := by rw [← hbq37] at H; exact H
              have Nbq37 := Aside0.mk hbq37
              clear hbq37
              by_cases c38 : bq37 = true
              ·
               subst c38
               have H1 : (rushlightref13_Uses.j5 k5 x3_5 t303 x5_5 (decide (x5_5 < (l0_9.length : Int))) a0_0 a0_1 a0_2 a0_3 a0_4 a0_5 a0_6 a0_7 a0_8 l0_9 a0_10) = some r := by rw [if_pos rfl] at H; exact H
               clear H
               have H := H1
               clear H1
               have H' := Aside0.mk H
               clear H
               obtain ⟨Ao39, co39, eo39⟩ := Kd.V_slice HO_4.out
               subst eo39
               have p314 : 0 ≤ (8 : Int) := (by omega)
               have q314 : 8 < (t303.length : Int) := of_decide_eq_true (by first | (with_reducible assumption) | assumption)
               obtain ⟨ad314, e314, hx314_0⟩ := Kd.at_bool (Kd.V_reads' HO_4.out).2.2 8 p314 q314
               (try rw [← Nbq37.out] at hx314_0)
               cases e314
               (try simp only [show (8 : Int).toNat = 8 from rfl, Nat.reduceMul, Nat.reduceEqDiff, Go.Addr.add, ↓reduceIte] at hx314_0)
               have qi314 : (8 < t303.length) = True := eq_true (by omega)
               (try rw [show ((8 : Int)).toNat = 8 from rfl] at hx314_0)
               replace p314 := eq_true p314
               replace q314 := eq_true q314
               have hcz40_0 : wr.cell? ⟨gb302, 0, none⟩ = some (.int .i64 a0_0) := (blk_cell BK302.out 0).trans rfl
               have hcz40_1 : wr.cell? ⟨gb302, 1, none⟩ = some (.int .i64 a0_1) := (blk_cell BK302.out 1).trans rfl
               have hcz40_2 : wr.cell? ⟨gb302, 2, none⟩ = some (.int .i64 a0_2) := (blk_cell BK302.out 2).trans rfl
               have hcz40_3 : wr.cell? ⟨gb302, 3, none⟩ = some (.int .i64 a0_3) := (blk_cell BK302.out 3).trans rfl
               have hcz40_4 : wr.cell? ⟨gb302, 4, none⟩ = some (.int .i64 a0_4) := (blk_cell BK302.out 4).trans rfl
               have hcz40_5 : wr.cell? ⟨gb302, 5, none⟩ = some (.int .i64 a0_5) := (blk_cell BK302.out 5).trans rfl
               have hcz40_6 : wr.cell? ⟨gb302, 6, none⟩ = some (.int .i64 a0_6) := (blk_cell BK302.out 6).trans rfl
               have hcz40_7 : wr.cell? ⟨gb302, 7, none⟩ = some (.int .i64 a0_7) := (blk_cell BK302.out 7).trans rfl
               have hcz40_8 : wr.cell? ⟨gb302, 8, none⟩ = some (.int .u32 a0_8) := (blk_cell BK302.out 8).trans rfl
               have hcz40_9 : wr.cell? ⟨gb302, 9, none⟩ = some (.slice A0_9 l0_9.length c0_9) := (blk_cell BK302.out 9).trans rfl
               have hcz40_10 : wr.cell? ⟨gb302, 10, none⟩ = some (.bool a0_10) := (blk_cell BK302.out 10).trans rfl
               have hfz40_0 := blk_frozen BK302.out 0
               have hfz40_1 := blk_frozen BK302.out 1
               have hfz40_2 := blk_frozen BK302.out 2
               have hfz40_3 := blk_frozen BK302.out 3
               have hfz40_4 := blk_frozen BK302.out 4
               have hfz40_5 := blk_frozen BK302.out 5
               have hfz40_6 := blk_frozen BK302.out 6
               have hfz40_7 := blk_frozen BK302.out 7
               have hfz40_8 := blk_frozen BK302.out 8
               have hfz40_9 := blk_frozen BK302.out 9
               have hfz40_10 := blk_frozen BK302.out 10
               go_wp2
               go_meet
               case rel => exact ⟨_, (decide (x5_5 < (l0_9.length : Int))), (by first | rfl | (simp; done) | (simp [*]; done)), H', ⟨by have := HJ2.out; have := HJ14.out; have := HJ19.out; have := HJ28.out; have := HK5.out; first | omega | exact Nat.le_refl _⟩, ⟨by (with_reducible repeat (first | apply Kd.R_alloc | apply Kd.R_drewN | apply Kd.R_drew)); exact HO_3.out⟩, ⟨by (with_reducible repeat (first | apply Kd.V_alloc | apply Kd.V_drewN | apply Kd.V_drew)); exact HO_4.out⟩, ⟨by (with_reducible repeat (first | refine blk_drewN ?_ _ | refine blk_drew ?_ | refine blk_alloc ?_ _)); exact BK302.out⟩, ⟨by repeat (first | (with_reducible first | exact HB.out | apply below_alloc | apply pw_below_drewN | apply below_drew1 | refine below_set ?_ GE302.out) | exact HB.out)⟩⟩
              ·
               replace c38 := Bool.eq_false_iff.mpr c38
               subst c38
               have H1 : (rushlightref13_Uses.j5 k5 x3_5 t303 x5_5 false a0_0 a0_1 a0_2 a0_3 a0_4 a0_5 a0_6 a0_7 a0_8 l0_9 a0_10) = some r := by rw [if_neg (show ¬ (false = true) by decide)] at H; exact H
               clear H
               have H := H1
               clear H1
               have H' := Aside0.mk H
               clear H
               obtain ⟨Ao41, co41, eo41⟩ := Kd.V_slice HO_4.out
               subst eo41
               have p314 : 0 ≤ (8 : Int) := (by omega)
               have q314 : 8 < (t303.length : Int) := of_decide_eq_true (by first | (with_reducible assumption) | assumption)
               obtain ⟨ad314, e314, hx314_0⟩ := Kd.at_bool (Kd.V_reads' HO_4.out).2.2 8 p314 q314
               (try rw [← Nbq37.out] at hx314_0)
               cases e314
               (try simp only [show (8 : Int).toNat = 8 from rfl, Nat.reduceMul, Nat.reduceEqDiff, Go.Addr.add, ↓reduceIte] at hx314_0)
               have qi314 : (8 < t303.length) = True := eq_true (by omega)
               (try rw [show ((8 : Int)).toNat = 8 from rfl] at hx314_0)
               replace p314 := eq_true p314
               replace q314 := eq_true q314
               go_wp2
               go_meet
               case rel => exact ⟨_, (false), (by first | rfl | (simp; done) | (simp [*]; done)), H', ⟨by have := HJ2.out; have := HJ14.out; have := HJ19.out; have := HJ28.out; have := HK5.out; first | omega | exact Nat.le_refl _⟩, ⟨by (with_reducible repeat (first | apply Kd.R_alloc | apply Kd.R_drewN | apply Kd.R_drew)); exact HO_3.out⟩, ⟨by (with_reducible repeat (first | apply Kd.V_alloc | apply Kd.V_drewN | apply Kd.V_drew)); exact HO_4.out⟩, ⟨by (with_reducible repeat (first | refine blk_drewN ?_ _ | refine blk_drew ?_ | refine blk_alloc ?_ _)); exact BK302.out⟩, ⟨by repeat (first | (with_reducible first | exact HB.out | apply below_alloc | apply pw_below_drewN | apply below_drew1 | refine below_set ?_ GE302.out) | exact HB.out)⟩⟩
             ·
              rw [if_neg c36] at H
              exact absurd H (by simp)
            ·
             rw [if_neg c35] at H
             have c35b0 : decide (0 < (t303.length : Int)) = false := decide_eq_false c35
             have c35b1 : decide (0 < t303.length) = false := decide_eq_false (by omega)
             clear c35
             (first | rw [c35b0] | (simp only [i64_w, i32_w]; rw [c35b0]) | skip)
             have H' := Aside0.mk H
             clear H
             obtain ⟨Ao42, co42, eo42⟩ := Kd.V_slice HO_4.out
             subst eo42
             go_wp2
             go_meet
             case rel => exact ⟨_, (false), (by first | rfl | (simp; done) | (simp [*]; done)), H', ⟨by have := HJ2.out; have := HJ14.out; have := HJ19.out; have := HJ28.out; have := HK5.out; first | omega | exact Nat.le_refl _⟩, ⟨by (with_reducible repeat (first | apply Kd.R_alloc | apply Kd.R_drewN | apply Kd.R_drew)); exact HO_3.out⟩, ⟨by (with_reducible repeat (first | apply Kd.V_alloc | apply Kd.V_drewN | apply Kd.V_drew)); exact HO_4.out⟩, ⟨by (with_reducible repeat (first | refine blk_drewN ?_ _ | refine blk_drew ?_ | refine blk_alloc ?_ _)); exact BK302.out⟩, ⟨by repeat (first | (with_reducible first | exact HB.out | apply below_alloc | apply pw_below_drewN | apply below_drew1 | refine below_set ?_ GE302.out) | exact HB.out)⟩⟩
           case rest =>
            clear HC34
            obtain ⟨kq, x59_33, rfl, HA, HJ33, HO_3, HO_4, BK302, HB⟩ := hcut
            cases kq with
            | zero => exact absurd HA.out (by simp [rushlightref13_Uses.j5])
            | succ kj33 =>
             have H := HA.out
             clear HA
             simp only [rushlightref13_Uses.j5] at H
             by_cases c43 : x59_33 = true
             ·
              subst c43
              have H1 : (if 0 ≤ x5_5 then (if x5_5 < (l0_9.length : Int) then (if (rd l0_9 x5_5) = (-1) then (rushlightref13_Uses.l0 kj33 x3_5 t303 (wrap64 (x5_5 + 1)) a0_0 a0_1 a0_2 a0_3 a0_4 a0_5 a0_6 a0_7 a0_8 l0_9 a0_10) else (if x3_5.length < 17592186044416 then (rushlightref13_Uses.l0 kj33 (x3_5 ++ [rd l0_9 x5_5]) t303 (wrap64 (x5_5 + 1)) a0_0 a0_1 a0_2 a0_3 a0_4 a0_5 a0_6 a0_7 a0_8 l0_9 a0_10) else (none))) else (none)) else (none)) = some r := by rw [if_pos rfl] at H; exact H
              clear H
              have H := H1
              clear H1
              by_cases c44 : 0 ≤ x5_5
              ·
               rw [if_pos c44] at H
               have c44b0 : decide (0 ≤ x5_5) = true := decide_eq_true c44
               clear c44
               by_cases c45 : x5_5 < (l0_9.length : Int)
               ·
                rw [if_pos c45] at H
                have c45b0 : decide (x5_5 < (l0_9.length : Int)) = true := decide_eq_true c45
                clear c45
                by_cases c46 : (rd l0_9 x5_5) = (-1)
                ·
                 rw [if_pos c46] at H
                 have c46b0 : ((rd l0_9 x5_5) == (-1)) = true := beq_iff_eq.mpr c46
                 have c46b1 : ((rd l0_9 x5_5) != (-1)) = false := bne_eq_false_iff_eq.mpr c46
                 clear c46
                 have H' := Aside0.mk H
                 clear H
                 have hcz47_0 : wc.cell? ⟨gb302, 0, none⟩ = some (.int .i64 a0_0) := (blk_cell BK302.out 0).trans rfl
                 have hcz47_1 : wc.cell? ⟨gb302, 1, none⟩ = some (.int .i64 a0_1) := (blk_cell BK302.out 1).trans rfl
                 have hcz47_2 : wc.cell? ⟨gb302, 2, none⟩ = some (.int .i64 a0_2) := (blk_cell BK302.out 2).trans rfl
                 have hcz47_3 : wc.cell? ⟨gb302, 3, none⟩ = some (.int .i64 a0_3) := (blk_cell BK302.out 3).trans rfl
                 have hcz47_4 : wc.cell? ⟨gb302, 4, none⟩ = some (.int .i64 a0_4) := (blk_cell BK302.out 4).trans rfl
                 have hcz47_5 : wc.cell? ⟨gb302, 5, none⟩ = some (.int .i64 a0_5) := (blk_cell BK302.out 5).trans rfl
                 have hcz47_6 : wc.cell? ⟨gb302, 6, none⟩ = some (.int .i64 a0_6) := (blk_cell BK302.out 6).trans rfl
                 have hcz47_7 : wc.cell? ⟨gb302, 7, none⟩ = some (.int .i64 a0_7) := (blk_cell BK302.out 7).trans rfl
                 have hcz47_8 : wc.cell? ⟨gb302, 8, none⟩ = some (.int .u32 a0_8) := (blk_cell BK302.out 8).trans rfl
                 have hcz47_9 : wc.cell? ⟨gb302, 9, none⟩ = some (.slice A0_9 l0_9.length c0_9) := (blk_cell BK302.out 9).trans rfl
                 have hcz47_10 : wc.cell? ⟨gb302, 10, none⟩ = some (.bool a0_10) := (blk_cell BK302.out 10).trans rfl
                 have hfz47_0 := blk_frozen BK302.out 0
                 have hfz47_1 := blk_frozen BK302.out 1
                 have hfz47_2 := blk_frozen BK302.out 2
                 have hfz47_3 := blk_frozen BK302.out 3
                 have hfz47_4 := blk_frozen BK302.out 4
                 have hfz47_5 := blk_frozen BK302.out 5
                 have hfz47_6 := blk_frozen BK302.out 6
                 have hfz47_7 := blk_frozen BK302.out 7
                 have hfz47_8 := blk_frozen BK302.out 8
                 have hfz47_9 := blk_frozen BK302.out 9
                 have hfz47_10 := blk_frozen BK302.out 10
                 have p315 : 0 ≤ (x5_5 : Int) := of_decide_eq_true (by first | (with_reducible assumption) | assumption)
                 have q315 : x5_5 < (l0_9.length : Int) := of_decide_eq_true (by first | (with_reducible assumption) | assumption)
                 obtain ⟨ad315, e315, hx315_0⟩ := Kd.at_int HR0_9.out x5_5 p315 q315
                 cases e315
                 replace hx315_0 := (HB.out.cell (World.block_lt_of_cell? w _ hx315_0)).trans hx315_0
                 replace p315 := eq_true p315
                 replace q315 := eq_true q315
                 go_wp2
                 go_roundg kj33
                 case measure => have := HJ2.out; have := HJ14.out; have := HJ19.out; have := HJ28.out; have := HK5.out; have := HJ33.out; omega
                 case rel => exact ⟨(x3_5), (wrap64 (x5_5 + 1)), (by first | rfl | (simp; done) | (simp [*]; done)), H', ⟨by have := HJ2.out; have := HJ14.out; have := HJ19.out; have := HJ28.out; have := HK5.out; have := HJ33.out; omega⟩, ⟨by (with_reducible repeat (first | apply Kd.R_alloc | apply Kd.R_drewN | apply Kd.R_drew)); exact HO_3.out⟩, ⟨by (with_reducible repeat (first | apply Kd.V_alloc | apply Kd.V_drewN | apply Kd.V_drew)); exact HO_4.out⟩, ⟨by (with_reducible repeat (first | refine blk_drewN ?_ _ | refine blk_drew ?_ | refine blk_alloc ?_ _)); exact BK302.out⟩, ⟨by repeat (first | (with_reducible first | exact HB.out | apply below_alloc | apply pw_below_drewN | apply below_drew1 | refine below_set ?_ GE302.out) | exact HB.out)⟩⟩
                ·
                 rw [if_neg c46] at H
                 have c46b0 : ((rd l0_9 x5_5) == (-1)) = false := beq_eq_false_iff_ne.mpr c46
                 have c46b1 : ((rd l0_9 x5_5) != (-1)) = true := bne_iff_ne.mpr c46
                 by_cases c48 : x3_5.length < 17592186044416
                 ·
                  rw [if_pos c48] at H
                  have LMc48 := Aside0.mk c48
                  clear c48
                  obtain ⟨y317, hy317⟩ : ∃ y_ : List Int, y_ = (x3_5 ++ [rd l0_9 x5_5]) := ⟨_, rfl⟩
                  replace H : (rushlightref13_Uses.l0 kj33 y317 t303 (wrap64 (x5_5 + 1)) a0_0 a0_1 a0_2 a0_3 a0_4 a0_5 a0_6 a0_7 a0_8 l0_9 a0_10) = some r := by first | (rw [hy317]; with_reducible exact H) | (have H2_ := (Option.bind_some _ _).symm.trans H; rw [hy317]; with_reducible exact H2_) | (have H2_ := (Option.bind_some _ _).symm.trans H; with_reducible exact H2_) | with_reducible exact H | (rw [hy317]; exact H) | exact H
                  have Ny317 := Aside0.mk hy317
                  clear hy317
                  have H' := Aside0.mk H
                  clear H
                  have hcz49_0 : wc.cell? ⟨gb302, 0, none⟩ = some (.int .i64 a0_0) := (blk_cell BK302.out 0).trans rfl
                  have hcz49_1 : wc.cell? ⟨gb302, 1, none⟩ = some (.int .i64 a0_1) := (blk_cell BK302.out 1).trans rfl
                  have hcz49_2 : wc.cell? ⟨gb302, 2, none⟩ = some (.int .i64 a0_2) := (blk_cell BK302.out 2).trans rfl
                  have hcz49_3 : wc.cell? ⟨gb302, 3, none⟩ = some (.int .i64 a0_3) := (blk_cell BK302.out 3).trans rfl
                  have hcz49_4 : wc.cell? ⟨gb302, 4, none⟩ = some (.int .i64 a0_4) := (blk_cell BK302.out 4).trans rfl
                  have hcz49_5 : wc.cell? ⟨gb302, 5, none⟩ = some (.int .i64 a0_5) := (blk_cell BK302.out 5).trans rfl
                  have hcz49_6 : wc.cell? ⟨gb302, 6, none⟩ = some (.int .i64 a0_6) := (blk_cell BK302.out 6).trans rfl
                  have hcz49_7 : wc.cell? ⟨gb302, 7, none⟩ = some (.int .i64 a0_7) := (blk_cell BK302.out 7).trans rfl
                  have hcz49_8 : wc.cell? ⟨gb302, 8, none⟩ = some (.int .u32 a0_8) := (blk_cell BK302.out 8).trans rfl
                  have hcz49_9 : wc.cell? ⟨gb302, 9, none⟩ = some (.slice A0_9 l0_9.length c0_9) := (blk_cell BK302.out 9).trans rfl
                  have hcz49_10 : wc.cell? ⟨gb302, 10, none⟩ = some (.bool a0_10) := (blk_cell BK302.out 10).trans rfl
                  have hfz49_0 := blk_frozen BK302.out 0
                  have hfz49_1 := blk_frozen BK302.out 1
                  have hfz49_2 := blk_frozen BK302.out 2
                  have hfz49_3 := blk_frozen BK302.out 3
                  have hfz49_4 := blk_frozen BK302.out 4
                  have hfz49_5 := blk_frozen BK302.out 5
                  have hfz49_6 := blk_frozen BK302.out 6
                  have hfz49_7 := blk_frozen BK302.out 7
                  have hfz49_8 := blk_frozen BK302.out 8
                  have hfz49_9 := blk_frozen BK302.out 9
                  have hfz49_10 := blk_frozen BK302.out 10
                  have p315 : 0 ≤ (x5_5 : Int) := of_decide_eq_true (by first | (with_reducible assumption) | assumption)
                  have q315 : x5_5 < (l0_9.length : Int) := of_decide_eq_true (by first | (with_reducible assumption) | assumption)
                  obtain ⟨ad315, e315, hx315_0⟩ := Kd.at_int HR0_9.out x5_5 p315 q315
                  cases e315
                  replace hx315_0 := (HB.out.cell (World.block_lt_of_cell? w _ hx315_0)).trans hx315_0
                  replace p315 := eq_true p315
                  replace q315 := eq_true q315
                  have p316 : 0 ≤ (x5_5 : Int) := of_decide_eq_true (by first | (with_reducible assumption) | assumption)
                  have q316 : x5_5 < (l0_9.length : Int) := of_decide_eq_true (by first | (with_reducible assumption) | assumption)
                  obtain ⟨ad316, e316, hx316_0⟩ := Kd.at_int HR0_9.out x5_5 p316 q316
                  obtain rfl : ad315 = ad316 := (by injection e316)
                  replace hx316_0 := (HB.out.cell (World.block_lt_of_cell? w _ hx316_0)).trans hx316_0
                  replace p316 := eq_true p316
                  replace q316 := eq_true q316
                  go_wp2_with (first | ((with_reducible refine gate_builtin (b := .append) (xs := #[.tmp 68, .tmp 74]) rfl ?_); (try (refine gate_guard (by rfl) ?_; dsimp only)); at_builtin; refine Kd.R_append (Kd.int .i64) (w0 := w) w.heap.size rfl (.tmp 68) (.tmp 74) 46 3 (.int .i64 0) 8 rfl Try.underlying46 info3 rfl (by decide) (by omega) u3 x3_5 (rd l0_9 x5_5) [.int .i64 (rd l0_9 x5_5)] (fun _ => True) (fun _ => False) rfl rfl ?aP (fun _ hk => hk.elim) ?aF ?aO ?aB ?aS ?aL ?_; (case aP => exact rfl); (case aB => exact (by repeat (first | (with_reducible first | exact HB.out | apply below_alloc | apply pw_below_drewN | apply below_drew1 | refine below_set ?_ GE302.out) | exact HB.out))); (case aF => exact (fun _ _ => trivial)); (case aO => exact (by (with_reducible repeat (first | apply Kd.R_alloc | apply Kd.R_drewN | apply Kd.R_drew)); exact HO_3.out)); (case aS => exact (below_size (by repeat (first | (with_reducible first | exact HB.out | apply below_alloc | apply pw_below_drewN | apply below_drew1 | refine below_set ?_ GE302.out) | exact HB.out)))); (case aL => have := LMc48.out; omega); intro v318 w50 ho hb hg hat; rw [← Ny317.out] at ho; have n0_ := Aside0.mk (Kd.V_afterv (ok := (fun k_ => k_ ≠ gb302)) (by (with_reducible repeat (first | apply Kd.V_alloc | apply Kd.V_drewN | apply Kd.V_drew)); exact Kd.V_mono HO_4.out (fun _ hk => ⟨hk.2, hk.1⟩)) hg hat); have n1_ := Aside0.mk (blk_grown (g := gb302) (o := .cells #[.int .i64 a0_0, .int .i64 a0_1, .int .i64 a0_2, .int .i64 a0_3, .int .i64 a0_4, .int .i64 a0_5, .int .i64 a0_6, .int .i64 a0_7, .int .u32 a0_8, .slice (some ad315) l0_9.length c0_9, .bool a0_10] 84 (0, 0)) (by (with_reducible repeat (first | refine blk_drewN ?_ _ | refine blk_drew ?_ | refine blk_alloc ?_ _)); exact BK302.out) hg (Kd.R_ne HO_3.out BK302.out (by decide))); have n2_ := Aside0.mk (hb); have n3_ := Aside0.mk (ho); clear HO_4; clear BK302; clear HB; clear HO_3; have HO_4 := n0_; have BK302 := n1_; have HB := n2_; have HO319 := n3_; clear n0_ n1_ n2_ n3_; clear ho hb hg hat))
                  go_roundg kj33
                  case measure => have := HJ2.out; have := HJ14.out; have := HJ19.out; have := HJ28.out; have := HK5.out; have := HJ33.out; omega
                  case rel => exact ⟨(y317), (wrap64 (x5_5 + 1)), (by first | rfl | (simp; done) | (simp [*]; done)), H', ⟨by have := HJ2.out; have := HJ14.out; have := HJ19.out; have := HJ28.out; have := HK5.out; have := HJ33.out; omega⟩, ⟨by (with_reducible repeat (first | apply Kd.R_alloc | apply Kd.R_drewN | apply Kd.R_drew)); exact HO319.out⟩, ⟨by (with_reducible repeat (first | apply Kd.V_alloc | apply Kd.V_drewN | apply Kd.V_drew)); exact Kd.V_mono HO_4.out (fun _ hk => ⟨hk.2, hk.1⟩)⟩, ⟨by (with_reducible repeat (first | refine blk_drewN ?_ _ | refine blk_drew ?_ | refine blk_alloc ?_ _)); exact BK302.out⟩, ⟨by repeat (first | (with_reducible first | exact HB.out | apply below_alloc | apply pw_below_drewN | apply below_drew1 | refine below_set ?_ GE302.out) | exact HB.out)⟩⟩
                 ·
                  rw [if_neg c48] at H
                  exact absurd H (by simp)
               ·
                rw [if_neg c45] at H
                exact absurd H (by simp)
              ·
               rw [if_neg c44] at H
               exact absurd H (by simp)
             ·
              replace c43 := Bool.eq_false_iff.mpr c43
              subst c43
              have H1 : (some x3_5) = some r := by rw [if_neg (show ¬ (false = true) by decide)] at H; exact H
              clear H
              have H := H1
              clear H1
              obtain rfl := Option.some.inj H
              go_wp2
              go_ret
              exact ⟨_, by first | rfl | (simp [errW_none, errW_some] <;> rfl) | (simp [*, errW_none, errW_some] <;> rfl), by (with_reducible repeat (first | apply Kd.R_alloc | apply Kd.R_drewN | apply Kd.R_drew)); exact HO_3.out, by repeat (first | (with_reducible first | exact HB.out | apply below_alloc | apply pw_below_drewN | apply below_drew1 | refine below_set ?_ GE302.out) | exact HB.out)⟩

/-! ### rushlightref13_Def: function 41 -/
def rushlightref13_Def.f (a0_0 : Int) (a0_1 : Int) (a0_2 : Int) (a0_3 : Int) (a0_4 : Int) (a0_5 : Int) (a0_6 : Int) (a0_7 : Int) (a0_8 : Int) (l0_9 : List Int) (a0_10 : Bool) : Option (Int) := (rushlightref13_fields.f a0_0).bind fun t321 => (if (t321.length : Int) = 0 then (some (-1)) else (if 0 < (t321.length : Int) then (if rdOf false t321 0 = true then (some a0_1) else (some (-1))) else (none)))
set_option maxHeartbeats 8000000 in
set_option maxRecDepth 100000 in
theorem rushlightref13_Def.calls (a0_0 : Int) (a0_1 : Int) (a0_2 : Int) (a0_3 : Int) (a0_4 : Int) (a0_5 : Int) (a0_6 : Int) (a0_7 : Int) (a0_8 : Int) (A0_9 : Option Addr) (c0_9 : Nat) (l0_9 : List Int) (a0_10 : Bool) (r : Int) (w : World) (hr0_9 : Kd.C (Kd.int .i64) w A0_9 l0_9.length l0_9) (hc0_9 : l0_9.length ≤ c0_9) (h : rushlightref13_Def.f a0_0 a0_1 a0_2 a0_3 a0_4 a0_5 a0_6 a0_7 a0_8 l0_9 a0_10 = some r) :
  Calls Try.prog 41 #[.agg #[.int .i64 a0_0, .int .i64 a0_1, .int .i64 a0_2, .int .i64 a0_3, .int .i64 a0_4, .int .i64 a0_5, .int .i64 a0_6, .int .i64 a0_7, .int .u32 a0_8, .slice A0_9 l0_9.length c0_9, .bool a0_10]] w fun e w' => e = .returned (.int .i64 r) ∧ Below w.heap.size w w' := by
 have hu84 := Try.underlying84
 have HR0_9 := Aside0.mk hr0_9
 have HC0_9 := Aside0.mk hc0_9
 clear hr0_9 hc0_9
 have HB := Aside0.mk (Below.refl w.heap.size w)
 have H : ((rushlightref13_fields.f a0_0).bind fun t321 => (if (t321.length : Int) = 0 then (some (-1)) else (if 0 < (t321.length : Int) then (if rdOf false t321 0 = true then (some a0_1) else (some (-1))) else (none)))) = some r := h
 clear h
 replace H := Option.bind_eq_some_iff.mp H
 obtain ⟨t321, A20, H⟩ := H
 replace H : (if (t321.length : Int) = 0 then (some (-1)) else (if 0 < (t321.length : Int) then (if rdOf false t321 0 = true then (some a0_1) else (some (-1))) else (none))) = some r := H
 have A2 := Aside0.mk A20
 clear A20
 by_cases c3 : (t321.length : Int) = 0
 ·
  rw [if_pos c3] at H
  have c3b0 : ((t321.length : Int) == 0) = true := beq_iff_eq.mpr c3
  have c3b1 : ((t321.length : Int) != 0) = false := bne_eq_false_iff_eq.mpr c3
  clear c3
  obtain rfl := Option.some.inj H
  go_enter Try.func41, Try.ntmps41
  go_wp2_with (first | ((with_reducible refine gate_dst (N := 1) rfl ?_); refine box_event ?hg (N := 1) ?hd (cs := #[.int .i64 a0_0, .int .i64 a0_1, .int .i64 a0_2, .int .i64 a0_3, .int .i64 a0_4, .int .i64 a0_5, .int .i64 a0_6, .int .i64 a0_7, .int .u32 a0_8, .slice A0_9 l0_9.length c0_9, .bool a0_10]) (t := 84) ?hr ?_; (case hd => rfl); (case hg => rfl); (case hr => first | (go_simp; done) | (go_simp; rfl)); intro gb320 hg w4 hbox hb; have n0_ := Aside0.mk (below_step (by repeat (first | (with_reducible first | exact HB.out | apply below_alloc | apply pw_below_drewN | apply below_drew1) | exact HB.out)) hb); have n1_ := Aside0.mk (hbox); have n2_ := Aside0.mk ((by rw [hg]; exact (below_size (by repeat (first | (with_reducible first | exact HB.out | apply below_alloc | apply pw_below_drewN | apply below_drew1) | exact HB.out))) : w.heap.size ≤ gb320)); have n3_ := Aside0.mk ((by rw [hg]; exact (below_size (by repeat (first | (with_reducible first | exact HB.out | apply below_alloc | apply pw_below_drewN | apply below_drew1) | exact HB.out))) : w.heap.size ≤ gb320)); clear HB; have HB := n0_; have BK320 := n1_; have GW320 := n2_; have GE320 := n3_; clear n0_ n1_ n2_ n3_; clear hb hbox hg; have hcz5_0 : w4.cell? ⟨gb320, 0, none⟩ = some (.int .i64 a0_0) := (blk_cell BK320.out 0).trans rfl; have hcz5_1 : w4.cell? ⟨gb320, 1, none⟩ = some (.int .i64 a0_1) := (blk_cell BK320.out 1).trans rfl; have hcz5_2 : w4.cell? ⟨gb320, 2, none⟩ = some (.int .i64 a0_2) := (blk_cell BK320.out 2).trans rfl; have hcz5_3 : w4.cell? ⟨gb320, 3, none⟩ = some (.int .i64 a0_3) := (blk_cell BK320.out 3).trans rfl; have hcz5_4 : w4.cell? ⟨gb320, 4, none⟩ = some (.int .i64 a0_4) := (blk_cell BK320.out 4).trans rfl; have hcz5_5 : w4.cell? ⟨gb320, 5, none⟩ = some (.int .i64 a0_5) := (blk_cell BK320.out 5).trans rfl; have hcz5_6 : w4.cell? ⟨gb320, 6, none⟩ = some (.int .i64 a0_6) := (blk_cell BK320.out 6).trans rfl; have hcz5_7 : w4.cell? ⟨gb320, 7, none⟩ = some (.int .i64 a0_7) := (blk_cell BK320.out 7).trans rfl; have hcz5_8 : w4.cell? ⟨gb320, 8, none⟩ = some (.int .u32 a0_8) := (blk_cell BK320.out 8).trans rfl; have hcz5_9 : w4.cell? ⟨gb320, 9, none⟩ = some (.slice A0_9 l0_9.length c0_9) := (blk_cell BK320.out 9).trans rfl; have hcz5_10 : w4.cell? ⟨gb320, 10, none⟩ = some (.bool a0_10) := (blk_cell BK320.out 10).trans rfl; have hfz5_0 := blk_frozen BK320.out 0; have hfz5_1 := blk_frozen BK320.out 1; have hfz5_2 := blk_frozen BK320.out 2; have hfz5_3 := blk_frozen BK320.out 3; have hfz5_4 := blk_frozen BK320.out 4; have hfz5_5 := blk_frozen BK320.out 5; have hfz5_6 := blk_frozen BK320.out 6; have hfz5_7 := blk_frozen BK320.out 7; have hfz5_8 := blk_frozen BK320.out 8; have hfz5_9 := blk_frozen BK320.out 9; have hfz5_10 := blk_frozen BK320.out 10) | ((with_reducible refine gate_callee (f := 70) rfl ?_); refine goesL_ (some 6) rfl rfl Try.func70 (by kernel_rfl) rfl #[.int .i64 a0_0] rfl (by (try simp only [List.map_toArray, List.map_cons, List.map_nil]); first | done | rfl | (simp only [List.length_drop, List.length_take]; rfl)) ?_; (with_reducible refine (rushlightref13_fields.calls a0_0 t321 _ A2.out).mono ?_); rintro e w6 ⟨v322, rfl, ho0, hb⟩; refine ⟨_, rfl, ?_⟩; have n0_ := Aside0.mk (Kd.V_lower (Kd.V_mono (ok' := fun k_ => k_ ≠ gb320) ho0 (fun k_ hk_ => (Kd.freshB (g := gb320) (o := .cells #[.int .i64 a0_0, .int .i64 a0_1, .int .i64 a0_2, .int .i64 a0_3, .int .i64 a0_4, .int .i64 a0_5, .int .i64 a0_6, .int .i64 a0_7, .int .u32 a0_8, .slice A0_9 l0_9.length c0_9, .bool a0_10] 84 (0, 0)) (by (with_reducible repeat (first | refine blk_drewN ?_ _ | refine blk_drew ?_ | refine blk_alloc ?_ _)); exact BK320.out) k_ hk_))) (below_size (by repeat (first | (with_reducible first | exact HB.out | apply below_alloc | apply pw_below_drewN | apply below_drew1 | refine below_set ?_ GE320.out) | exact HB.out)))); have n1_ := Aside0.mk (blk_below (g := gb320) (o := .cells #[.int .i64 a0_0, .int .i64 a0_1, .int .i64 a0_2, .int .i64 a0_3, .int .i64 a0_4, .int .i64 a0_5, .int .i64 a0_6, .int .i64 a0_7, .int .u32 a0_8, .slice A0_9 l0_9.length c0_9, .bool a0_10] 84 (0, 0)) (by (with_reducible repeat (first | refine blk_drewN ?_ _ | refine blk_drew ?_ | refine blk_alloc ?_ _)); exact BK320.out) hb); have n2_ := Aside0.mk (below_step (by repeat (first | (with_reducible first | exact HB.out | apply below_alloc | apply pw_below_drewN | apply below_drew1 | refine below_set ?_ GE320.out) | exact HB.out)) hb); clear BK320; clear HB; have HO323 := n0_; have BK320 := n1_; have HB := n2_; clear n0_ n1_ n2_; (try clear hb); (try clear hb2); (try clear hk); (try clear hi); (try clear ho0); obtain ⟨Ao7, co7, eo7⟩ := Kd.V_slice HO323.out; subst eo7))
  go_ret
  exact ⟨by first | rfl | (simp [errW_none, errW_some] <;> rfl) | (simp [*, errW_none, errW_some] <;> rfl), by repeat (first | (with_reducible first | exact HB.out | apply below_alloc | apply pw_below_drewN | apply below_drew1 | refine below_set ?_ GE320.out) | exact HB.out)⟩
 ·
  rw [if_neg c3] at H
  have c3b0 : ((t321.length : Int) == 0) = false := beq_eq_false_iff_ne.mpr c3
  have c3b1 : ((t321.length : Int) != 0) = true := bne_iff_ne.mpr c3
  have c3b2 : ¬ (t321 = []) := fun h_ => c3 (by rw [h_]; rfl)
  by_cases c8 : 0 < (t321.length : Int)
  ·
   rw [if_pos c8] at H
   have c8b0 : decide (0 < (t321.length : Int)) = true := decide_eq_true c8
   have c8b1 : decide (0 < t321.length) = true := decide_eq_true (by omega)
   clear c8
   obtain ⟨bq9, hbq9⟩ : ∃ b_ : Bool, b_ = (rdOf false t321 0) := ⟨_, rfl⟩
   replace H : (if bq9 = true then (some a0_1) else (some (-1))) = some r := by rw [← hbq9] at H; exact H
   have Nbq9 := Aside0.mk hbq9
   clear hbq9
   by_cases c10 : bq9 = true
   ·
    subst c10
    have H1 : (some a0_1) = some r := by rw [if_pos rfl] at H; exact H
    clear H
    have H := H1
    clear H1
    obtain rfl := Option.some.inj H
    go_enter Try.func41, Try.ntmps41
    go_wp2_with (first | ((with_reducible refine gate_dst (N := 1) rfl ?_); refine box_event ?hg (N := 1) ?hd (cs := #[.int .i64 a0_0, .int .i64 a0_1, .int .i64 a0_2, .int .i64 a0_3, .int .i64 a0_4, .int .i64 a0_5, .int .i64 a0_6, .int .i64 a0_7, .int .u32 a0_8, .slice A0_9 l0_9.length c0_9, .bool a0_10]) (t := 84) ?hr ?_; (case hd => rfl); (case hg => rfl); (case hr => first | (go_simp; done) | (go_simp; rfl)); intro gb320 hg w11 hbox hb; have n0_ := Aside0.mk (below_step (by repeat (first | (with_reducible first | exact HB.out | apply below_alloc | apply pw_below_drewN | apply below_drew1) | exact HB.out)) hb); have n1_ := Aside0.mk (hbox); have n2_ := Aside0.mk ((by rw [hg]; exact (below_size (by repeat (first | (with_reducible first | exact HB.out | apply below_alloc | apply pw_below_drewN | apply below_drew1) | exact HB.out))) : w.heap.size ≤ gb320)); have n3_ := Aside0.mk ((by rw [hg]; exact (below_size (by repeat (first | (with_reducible first | exact HB.out | apply below_alloc | apply pw_below_drewN | apply below_drew1) | exact HB.out))) : w.heap.size ≤ gb320)); clear HB; have HB := n0_; have BK320 := n1_; have GW320 := n2_; have GE320 := n3_; clear n0_ n1_ n2_ n3_; clear hb hbox hg; have hcz12_0 : w11.cell? ⟨gb320, 0, none⟩ = some (.int .i64 a0_0) := (blk_cell BK320.out 0).trans rfl; have hcz12_1 : w11.cell? ⟨gb320, 1, none⟩ = some (.int .i64 a0_1) := (blk_cell BK320.out 1).trans rfl; have hcz12_2 : w11.cell? ⟨gb320, 2, none⟩ = some (.int .i64 a0_2) := (blk_cell BK320.out 2).trans rfl; have hcz12_3 : w11.cell? ⟨gb320, 3, none⟩ = some (.int .i64 a0_3) := (blk_cell BK320.out 3).trans rfl; have hcz12_4 : w11.cell? ⟨gb320, 4, none⟩ = some (.int .i64 a0_4) := (blk_cell BK320.out 4).trans rfl; have hcz12_5 : w11.cell? ⟨gb320, 5, none⟩ = some (.int .i64 a0_5) := (blk_cell BK320.out 5).trans rfl; have hcz12_6 : w11.cell? ⟨gb320, 6, none⟩ = some (.int .i64 a0_6) := (blk_cell BK320.out 6).trans rfl; have hcz12_7 : w11.cell? ⟨gb320, 7, none⟩ = some (.int .i64 a0_7) := (blk_cell BK320.out 7).trans rfl; have hcz12_8 : w11.cell? ⟨gb320, 8, none⟩ = some (.int .u32 a0_8) := (blk_cell BK320.out 8).trans rfl; have hcz12_9 : w11.cell? ⟨gb320, 9, none⟩ = some (.slice A0_9 l0_9.length c0_9) := (blk_cell BK320.out 9).trans rfl; have hcz12_10 : w11.cell? ⟨gb320, 10, none⟩ = some (.bool a0_10) := (blk_cell BK320.out 10).trans rfl; have hfz12_0 := blk_frozen BK320.out 0; have hfz12_1 := blk_frozen BK320.out 1; have hfz12_2 := blk_frozen BK320.out 2; have hfz12_3 := blk_frozen BK320.out 3; have hfz12_4 := blk_frozen BK320.out 4; have hfz12_5 := blk_frozen BK320.out 5; have hfz12_6 := blk_frozen BK320.out 6; have hfz12_7 := blk_frozen BK320.out 7; have hfz12_8 := blk_frozen BK320.out 8; have hfz12_9 := blk_frozen BK320.out 9; have hfz12_10 := blk_frozen BK320.out 10) | ((with_reducible refine gate_callee (f := 70) rfl ?_); refine goesL_ (some 6) rfl rfl Try.func70 (by kernel_rfl) rfl #[.int .i64 a0_0] rfl (by (try simp only [List.map_toArray, List.map_cons, List.map_nil]); first | done | rfl | (simp only [List.length_drop, List.length_take]; rfl)) ?_; (with_reducible refine (rushlightref13_fields.calls a0_0 t321 _ A2.out).mono ?_); rintro e w13 ⟨v322, rfl, ho0, hb⟩; refine ⟨_, rfl, ?_⟩; have n0_ := Aside0.mk (Kd.V_lower (Kd.V_mono (ok' := fun k_ => k_ ≠ gb320) ho0 (fun k_ hk_ => (Kd.freshB (g := gb320) (o := .cells #[.int .i64 a0_0, .int .i64 a0_1, .int .i64 a0_2, .int .i64 a0_3, .int .i64 a0_4, .int .i64 a0_5, .int .i64 a0_6, .int .i64 a0_7, .int .u32 a0_8, .slice A0_9 l0_9.length c0_9, .bool a0_10] 84 (0, 0)) (by (with_reducible repeat (first | refine blk_drewN ?_ _ | refine blk_drew ?_ | refine blk_alloc ?_ _)); exact BK320.out) k_ hk_))) (below_size (by repeat (first | (with_reducible first | exact HB.out | apply below_alloc | apply pw_below_drewN | apply below_drew1 | refine below_set ?_ GE320.out) | exact HB.out)))); have n1_ := Aside0.mk (blk_below (g := gb320) (o := .cells #[.int .i64 a0_0, .int .i64 a0_1, .int .i64 a0_2, .int .i64 a0_3, .int .i64 a0_4, .int .i64 a0_5, .int .i64 a0_6, .int .i64 a0_7, .int .u32 a0_8, .slice A0_9 l0_9.length c0_9, .bool a0_10] 84 (0, 0)) (by (with_reducible repeat (first | refine blk_drewN ?_ _ | refine blk_drew ?_ | refine blk_alloc ?_ _)); exact BK320.out) hb); have n2_ := Aside0.mk (below_step (by repeat (first | (with_reducible first | exact HB.out | apply below_alloc | apply pw_below_drewN | apply below_drew1 | refine below_set ?_ GE320.out) | exact HB.out)) hb); clear BK320; clear HB; have HO323 := n0_; have BK320 := n1_; have HB := n2_; clear n0_ n1_ n2_; (try clear hb); (try clear hb2); (try clear hk); (try clear hi); (try clear ho0); obtain ⟨Ao14, co14, eo14⟩ := Kd.V_slice HO323.out; subst eo14; have p324 : 0 ≤ (0 : Int) := (by omega); have q324 : 0 < (t321.length : Int) := of_decide_eq_true (by first | (with_reducible assumption) | assumption); obtain ⟨ad324, e324, hx324_0⟩ := Kd.at_bool (Kd.V_reads' HO323.out).2.2 0 p324 q324; (try rw [← Nbq9.out] at hx324_0); cases e324; have qi324 : (0 < t321.length) = True := eq_true (by omega); (try rw [show ((0 : Int)).toNat = 0 from rfl] at hx324_0); (try rw [Addr.add_zero'] at hx324_0); replace p324 := eq_true p324; replace q324 := eq_true q324; have hcz15_0 : w13.cell? ⟨gb320, 0, none⟩ = some (.int .i64 a0_0) := (blk_cell BK320.out 0).trans rfl; have hcz15_1 : w13.cell? ⟨gb320, 1, none⟩ = some (.int .i64 a0_1) := (blk_cell BK320.out 1).trans rfl; have hcz15_2 : w13.cell? ⟨gb320, 2, none⟩ = some (.int .i64 a0_2) := (blk_cell BK320.out 2).trans rfl; have hcz15_3 : w13.cell? ⟨gb320, 3, none⟩ = some (.int .i64 a0_3) := (blk_cell BK320.out 3).trans rfl; have hcz15_4 : w13.cell? ⟨gb320, 4, none⟩ = some (.int .i64 a0_4) := (blk_cell BK320.out 4).trans rfl; have hcz15_5 : w13.cell? ⟨gb320, 5, none⟩ = some (.int .i64 a0_5) := (blk_cell BK320.out 5).trans rfl; have hcz15_6 : w13.cell? ⟨gb320, 6, none⟩ = some (.int .i64 a0_6) := (blk_cell BK320.out 6).trans rfl; have hcz15_7 : w13.cell? ⟨gb320, 7, none⟩ = some (.int .i64 a0_7) := (blk_cell BK320.out 7).trans rfl; have hcz15_8 : w13.cell? ⟨gb320, 8, none⟩ = some (.int .u32 a0_8) := (blk_cell BK320.out 8).trans rfl; have hcz15_9 : w13.cell? ⟨gb320, 9, none⟩ = some (.slice A0_9 l0_9.length c0_9) := (blk_cell BK320.out 9).trans rfl; have hcz15_10 : w13.cell? ⟨gb320, 10, none⟩ = some (.bool a0_10) := (blk_cell BK320.out 10).trans rfl; have hfz15_0 := blk_frozen BK320.out 0; have hfz15_1 := blk_frozen BK320.out 1; have hfz15_2 := blk_frozen BK320.out 2; have hfz15_3 := blk_frozen BK320.out 3; have hfz15_4 := blk_frozen BK320.out 4; have hfz15_5 := blk_frozen BK320.out 5; have hfz15_6 := blk_frozen BK320.out 6; have hfz15_7 := blk_frozen BK320.out 7; have hfz15_8 := blk_frozen BK320.out 8; have hfz15_9 := blk_frozen BK320.out 9; have hfz15_10 := blk_frozen BK320.out 10))
    go_ret
    exact ⟨by first | rfl | (simp [errW_none, errW_some] <;> rfl) | (simp [*, errW_none, errW_some] <;> rfl), by repeat (first | (with_reducible first | exact HB.out | apply below_alloc | apply pw_below_drewN | apply below_drew1 | refine below_set ?_ GE320.out) | exact HB.out)⟩
   ·
    replace c10 := Bool.eq_false_iff.mpr c10
    subst c10
    have H1 : (some (-1)) = some r := by rw [if_neg (show ¬ (false = true) by decide)] at H; exact H
    clear H
    have H := H1
    clear H1
    obtain rfl := Option.some.inj H
    go_enter Try.func41, Try.ntmps41
    go_wp2_with (first | ((with_reducible refine gate_dst (N := 1) rfl ?_); refine box_event ?hg (N := 1) ?hd (cs := #[.int .i64 a0_0, .int .i64 a0_1, .int .i64 a0_2, .int .i64 a0_3, .int .i64 a0_4, .int .i64 a0_5, .int .i64 a0_6, .int .i64 a0_7, .int .u32 a0_8, .slice A0_9 l0_9.length c0_9, .bool a0_10]) (t := 84) ?hr ?_; (case hd => rfl); (case hg => rfl); (case hr => first | (go_simp; done) | (go_simp; rfl)); intro gb320 hg w16 hbox hb; have n0_ := Aside0.mk (below_step (by repeat (first | (with_reducible first | exact HB.out | apply below_alloc | apply pw_below_drewN | apply below_drew1) | exact HB.out)) hb); have n1_ := Aside0.mk (hbox); have n2_ := Aside0.mk ((by rw [hg]; exact (below_size (by repeat (first | (with_reducible first | exact HB.out | apply below_alloc | apply pw_below_drewN | apply below_drew1) | exact HB.out))) : w.heap.size ≤ gb320)); have n3_ := Aside0.mk ((by rw [hg]; exact (below_size (by repeat (first | (with_reducible first | exact HB.out | apply below_alloc | apply pw_below_drewN | apply below_drew1) | exact HB.out))) : w.heap.size ≤ gb320)); clear HB; have HB := n0_; have BK320 := n1_; have GW320 := n2_; have GE320 := n3_; clear n0_ n1_ n2_ n3_; clear hb hbox hg; have hcz17_0 : w16.cell? ⟨gb320, 0, none⟩ = some (.int .i64 a0_0) := (blk_cell BK320.out 0).trans rfl; have hcz17_1 : w16.cell? ⟨gb320, 1, none⟩ = some (.int .i64 a0_1) := (blk_cell BK320.out 1).trans rfl; have hcz17_2 : w16.cell? ⟨gb320, 2, none⟩ = some (.int .i64 a0_2) := (blk_cell BK320.out 2).trans rfl; have hcz17_3 : w16.cell? ⟨gb320, 3, none⟩ = some (.int .i64 a0_3) := (blk_cell BK320.out 3).trans rfl; have hcz17_4 : w16.cell? ⟨gb320, 4, none⟩ = some (.int .i64 a0_4) := (blk_cell BK320.out 4).trans rfl; have hcz17_5 : w16.cell? ⟨gb320, 5, none⟩ = some (.int .i64 a0_5) := (blk_cell BK320.out 5).trans rfl; have hcz17_6 : w16.cell? ⟨gb320, 6, none⟩ = some (.int .i64 a0_6) := (blk_cell BK320.out 6).trans rfl; have hcz17_7 : w16.cell? ⟨gb320, 7, none⟩ = some (.int .i64 a0_7) := (blk_cell BK320.out 7).trans rfl; have hcz17_8 : w16.cell? ⟨gb320, 8, none⟩ = some (.int .u32 a0_8) := (blk_cell BK320.out 8).trans rfl; have hcz17_9 : w16.cell? ⟨gb320, 9, none⟩ = some (.slice A0_9 l0_9.length c0_9) := (blk_cell BK320.out 9).trans rfl; have hcz17_10 : w16.cell? ⟨gb320, 10, none⟩ = some (.bool a0_10) := (blk_cell BK320.out 10).trans rfl; have hfz17_0 := blk_frozen BK320.out 0; have hfz17_1 := blk_frozen BK320.out 1; have hfz17_2 := blk_frozen BK320.out 2; have hfz17_3 := blk_frozen BK320.out 3; have hfz17_4 := blk_frozen BK320.out 4; have hfz17_5 := blk_frozen BK320.out 5; have hfz17_6 := blk_frozen BK320.out 6; have hfz17_7 := blk_frozen BK320.out 7; have hfz17_8 := blk_frozen BK320.out 8; have hfz17_9 := blk_frozen BK320.out 9; have hfz17_10 := blk_frozen BK320.out 10) | ((with_reducible refine gate_callee (f := 70) rfl ?_); refine goesL_ (some 6) rfl rfl Try.func70 (by kernel_rfl) rfl #[.int .i64 a0_0] rfl (by (try simp only [List.map_toArray, List.map_cons, List.map_nil]); first | done | rfl | (simp only [List.length_drop, List.length_take]; rfl)) ?_; (with_reducible refine (rushlightref13_fields.calls a0_0 t321 _ A2.out).mono ?_); rintro e w18 ⟨v322, rfl, ho0, hb⟩; refine ⟨_, rfl, ?_⟩; have n0_ := Aside0.mk (Kd.V_lower (Kd.V_mono (ok' := fun k_ => k_ ≠ gb320) ho0 (fun k_ hk_ => (Kd.freshB (g := gb320) (o := .cells #[.int .i64 a0_0, .int .i64 a0_1, .int .i64 a0_2, .int .i64 a0_3, .int .i64 a0_4, .int .i64 a0_5, .int .i64 a0_6, .int .i64 a0_7, .int .u32 a0_8, .slice A0_9 l0_9.length c0_9, .bool a0_10] 84 (0, 0)) (by (with_reducible repeat (first | refine blk_drewN ?_ _ | refine blk_drew ?_ | refine blk_alloc ?_ _)); exact BK320.out) k_ hk_))) (below_size (by repeat (first | (with_reducible first | exact HB.out | apply below_alloc | apply pw_below_drewN | apply below_drew1 | refine below_set ?_ GE320.out) | exact HB.out)))); have n1_ := Aside0.mk (blk_below (g := gb320) (o := .cells #[.int .i64 a0_0, .int .i64 a0_1, .int .i64 a0_2, .int .i64 a0_3, .int .i64 a0_4, .int .i64 a0_5, .int .i64 a0_6, .int .i64 a0_7, .int .u32 a0_8, .slice A0_9 l0_9.length c0_9, .bool a0_10] 84 (0, 0)) (by (with_reducible repeat (first | refine blk_drewN ?_ _ | refine blk_drew ?_ | refine blk_alloc ?_ _)); exact BK320.out) hb); have n2_ := Aside0.mk (below_step (by repeat (first | (with_reducible first | exact HB.out | apply below_alloc | apply pw_below_drewN | apply below_drew1 | refine below_set ?_ GE320.out) | exact HB.out)) hb); clear BK320; clear HB; have HO323 := n0_; have BK320 := n1_; have HB := n2_; clear n0_ n1_ n2_; (try clear hb); (try clear hb2); (try clear hk); (try clear hi); (try clear ho0); obtain ⟨Ao19, co19, eo19⟩ := Kd.V_slice HO323.out; subst eo19; have p324 : 0 ≤ (0 : Int) := (by omega); have q324 : 0 < (t321.length : Int) := of_decide_eq_true (by first | (with_reducible assumption) | assumption); obtain ⟨ad324, e324, hx324_0⟩ := Kd.at_bool (Kd.V_reads' HO323.out).2.2 0 p324 q324; (try rw [← Nbq9.out] at hx324_0); cases e324; have qi324 : (0 < t321.length) = True := eq_true (by omega); (try rw [show ((0 : Int)).toNat = 0 from rfl] at hx324_0); (try rw [Addr.add_zero'] at hx324_0); replace p324 := eq_true p324; replace q324 := eq_true q324))
    go_ret
    exact ⟨by first | rfl | (simp [errW_none, errW_some] <;> rfl) | (simp [*, errW_none, errW_some] <;> rfl), by repeat (first | (with_reducible first | exact HB.out | apply below_alloc | apply pw_below_drewN | apply below_drew1 | refine below_set ?_ GE320.out) | exact HB.out)⟩
  ·
   rw [if_neg c8] at H
   exact absurd H (by simp)

/-! ### rushlightref16_has: function 80 -/
def rushlightref16_has.l0 : Nat → List Int → Int → Int → Option (Bool)
 | 0, _, _, _ => none
 | k + 1, x0, x1, x5 => if x5 < (x0.length : Int) then (if 0 ≤ x5 then (if (rd x0 x5) = x1 then (some true) else (rushlightref16_has.l0 k x0 x1 (wrap64 (x5 + 1)))) else (none)) else (some false)
def rushlightref16_has.f (k : Nat) (l0 : List Int) (a1 : Int) : Option (Bool) := rushlightref16_has.l0 k l0 a1 0
set_option maxHeartbeats 8000000 in
set_option maxRecDepth 100000 in
theorem rushlightref16_has.calls (k : Nat) (A0 : Option Addr) (c0 : Nat) (l0 : List Int) (a1 : Int) (r : Bool) (w : World) (hr0 : Kd.C (Kd.int .i64) w A0 l0.length l0) (hc0 : l0.length ≤ c0) (h : rushlightref16_has.f k l0 a1 = some r) :
  Calls Try.prog 80 #[.slice A0 l0.length c0, .int .i64 a1] w fun e w' => e = .returned (.bool r) ∧ Drawn0 w w' := by
 have HR0 := Aside0.mk hr0
 have HC0 := Aside0.mk hc0
 clear hr0 hc0
 have H : (rushlightref16_has.l0 k l0 a1 0) = some r := h
 clear h
 have H' := Aside0.mk H
 clear H
 go_enter Try.func80, Try.ntmps80
 go_wp2
 go_loopg [5] k (fun kq v5 w' => ∃ (x5_1 : Int), v5 = .int .i64 x5_1 ∧ Aside0 (rushlightref16_has.l0 kq l0 a1 x5_1 = some r) ∧ Aside0 (kq ≤ k) ∧ Drawn0 w w')
 case atStart => exact ⟨(0), (by first | rfl | (simp; done) | (simp [*]; done)), H', ⟨Nat.le_refl _⟩, by repeat (first | exact Drawn0.refl _ | apply Drawn0.step)⟩
 case round =>
  clear H'
  obtain ⟨x5_1, rfl, HA, HK1, ⟨m1, rfl⟩⟩ := hrel
  cases gk with
  | zero => exact absurd HA.out (by simp [rushlightref16_has.l0])
  | succ k1 =>
   have H := HA.out
   clear HA
   simp only [rushlightref16_has.l0] at H
   by_cases c3 : x5_1 < (l0.length : Int)
   ·
    rw [if_pos c3] at H
    have c3b0 : decide (x5_1 < (l0.length : Int)) = true := decide_eq_true c3
    clear c3
    by_cases c4 : 0 ≤ x5_1
    ·
     rw [if_pos c4] at H
     have c4b0 : decide (0 ≤ x5_1) = true := decide_eq_true c4
     clear c4
     by_cases c5 : (rd l0 x5_1) = a1
     ·
      rw [if_pos c5] at H
      have c5b0 : ((rd l0 x5_1) == a1) = true := beq_iff_eq.mpr c5
      have c5b1 : ((rd l0 x5_1) != a1) = false := bne_eq_false_iff_eq.mpr c5
      clear c5
      obtain rfl := Option.some.inj H
      have p325 : 0 ≤ (x5_1 : Int) := of_decide_eq_true (by first | (with_reducible assumption) | assumption)
      have q325 : x5_1 < (l0.length : Int) := of_decide_eq_true (by first | (with_reducible assumption) | assumption)
      obtain ⟨ad325, e325, hx325_0⟩ := Kd.at_int HR0.out x5_1 p325 q325
      cases e325
      replace p325 := eq_true p325
      replace q325 := eq_true q325
      go_wp2
      go_ret
      exact ⟨by first | rfl | (simp; done) | (simp [*]; done), by repeat (first | exact Drawn0.refl _ | apply Drawn0.step)⟩
     ·
      rw [if_neg c5] at H
      have c5b0 : ((rd l0 x5_1) == a1) = false := beq_eq_false_iff_ne.mpr c5
      have c5b1 : ((rd l0 x5_1) != a1) = true := bne_iff_ne.mpr c5
      have H' := Aside0.mk H
      clear H
      have p325 : 0 ≤ (x5_1 : Int) := of_decide_eq_true (by first | (with_reducible assumption) | assumption)
      have q325 : x5_1 < (l0.length : Int) := of_decide_eq_true (by first | (with_reducible assumption) | assumption)
      obtain ⟨ad325, e325, hx325_0⟩ := Kd.at_int HR0.out x5_1 p325 q325
      cases e325
      replace p325 := eq_true p325
      replace q325 := eq_true q325
      go_wp2
      go_roundg k1
      case measure => have := HK1.out; omega
      case rel => exact ⟨(wrap64 (x5_1 + 1)), (by first | rfl | (simp; done) | (simp [*]; done)), H', ⟨by have := HK1.out; omega⟩, by repeat (first | exact Drawn0.refl _ | apply Drawn0.step)⟩
    ·
     rw [if_neg c4] at H
     exact absurd H (by simp)
   ·
    rw [if_neg c3] at H
    have c3b0 : decide (x5_1 < (l0.length : Int)) = false := decide_eq_false c3
    clear c3
    obtain rfl := Option.some.inj H
    go_wp2
    go_ret
    exact ⟨by first | rfl | (simp; done) | (simp [*]; done), by repeat (first | exact Drawn0.refl _ | apply Drawn0.step)⟩

end Go.Proofs.Ytppanpboejpmjaa.Tr
