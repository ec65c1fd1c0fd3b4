/- The law FlowLeads: the walk and the plain law joined. -/
import Derived.Test.YtppanpboejpmjaaMfK
import Derived.Test.YtppanpboejpmjaaFlowLead
set_option linter.all false
namespace Go.Proofs.Ytppanpboejpmjaa.Mf
open Go Go.RowKit Go.Proofs.Ytppanpboejpmjaa.Tr Go.Proofs.YtppanpboejpmjaaW.PrintWords Go.Proofs.YtppanpboejpmjaaW.PrintLast

theorem Ev.upto {α : Type} {f : Nat → Nat → Option α} {g : Nat → α} : ∀ n : Nat, (∀ i, i < n → Ev (f i) (g i)) → ∃ K, ∀ i, i < n → ∀ k, K ≤ k → f i k = some (g i)
  | 0, _ => ⟨0, fun i hi => by omega⟩
  | n + 1, h => by
    obtain ⟨K, hK⟩ := Ev.upto n (fun i hi => h i (by omega))
    obtain ⟨K2, hK2⟩ := h n (by omega)
    refine ⟨max K K2, fun i hi k hk => ?_⟩
    by_cases e : i < n
    · exact hK i e k (by omega)
    · obtain rfl : i = n := by omega
      exact hK2 k (by omega)
theorem zi_mem (l : List Nat) (i : Nat) : (i : Int) ∈ zi l ↔ i ∈ l := by
  unfold zi
  rw [List.mem_map]
  constructor
  · rintro ⟨x, hx, e⟩; rw [show i = x by omega]; exact hx
  · intro h; exact ⟨i, h, rfl⟩
theorem reach_eq (a0 : ByteArray) (a1 : Bool) (a2 a3 : Int) (l4 : List S76) (l : List S45) (hl : l.length ≤ 40) (left : List Nat) (bk : List (Nat × Nat)) (T : Tour l left bk) : flow_marks (zi left.reverse) l.length = l0P l l.length (List.replicate l.length false) ∧ (flow_marks (zi left.reverse) l.length).length = l.length := by
  obtain ⟨h1, h2, h3⟩ := reach_rounds l l.length (List.replicate l.length false) (by simp) (fun i hi => by
    rw [List.getD_eq_getElem?_getD, List.getElem?_replicate] at hi; split at hi <;> simp at hi) (.inr (by omega))
  have hm := marks_get (zi left.reverse) l.length (fun x hx => by
    unfold zi at hx
    obtain ⟨y, hy, e⟩ := List.mem_map.1 hx
    have := T.lt y (List.mem_reverse.1 hy); omega)
  refine ⟨?_, flow_marks_length _ _⟩
  apply List.ext_getElem?
  intro i
  by_cases hi : i < l.length
  · rw [getD_at (d := false) (show i < (flow_marks (zi left.reverse) l.length).length by rw [flow_marks_length]; exact hi), getD_at (d := false) (show i < (l0P l l.length (List.replicate l.length false)).length by rw [h2]; exact hi)]
    congr 1
    have e1 : (flow_marks (zi left.reverse) l.length).getD i false = true ↔ Path l i := by
      rw [hm i, zi_mem, List.mem_reverse, T.path i]
    have e2 : (l0P l l.length (List.replicate l.length false)).getD i false = true ↔ Path l i := ⟨h1 i, h3 i⟩
    have e3 := e1.trans e2.symm
    cases ha : (flow_marks (zi left.reverse) l.length).getD i false <;> cases hb : (l0P l l.length (List.replicate l.length false)).getD i false <;> rw [ha, hb] at e3 <;> simp at e3 ⊢
  · rw [List.getElem?_eq_none (by rw [flow_marks_length]; omega), List.getElem?_eq_none (by rw [h2]; omega)]
/-- the compiler's order, back edges and reach -/
theorem flows (a0 : ByteArray) (a1 : Bool) (a2 a3 : Int) (l4 : List S76) (l : List S45) (hl : l.length ≤ 40) : ∃ (st left : List Nat) (bk : List (Nat × Nat)), Tour l left bk ∧ left.length ≤ 1000 ∧ Ev (fun k => flow_Order.f k a0 a1 a2 a3 l4 l) (zi left.reverse) ∧ Ev (fun k => flow_Back.f k a0 a1 a2 a3 l4 l) (zp bk) ∧ Ev (fun k => flow_Reach.f k a0 a1 a2 a3 l4 l) (flow_marks (zi left.reverse) l.length) ∧ Ev (fun k => ref_Walked.f k a0 a1 a2 a3 l4 l) (zi st, zi left, zp bk) := by
  obtain ⟨st, left, bk, T, h1, h2⟩ := tour a0 a1 a2 a3 l4 l hl
  have hlen : left.length ≤ 1000 := T.llen
  refine ⟨st, left, bk, T, hlen, ?_, ?_, ?_, h2⟩
  · unfold flow_Order.f
    simp only [if_pos (show l.length ≤ 4000000000000 by omega)]
    exact Ev.bind h1 (Ev.now _)
  · unfold flow_Back.f
    simp only [if_pos (show l.length ≤ 4000000000000 by omega)]
    exact Ev.bind h1 (Ev.now _)
  · unfold flow_Reach.f
    simp only [if_pos (show l.length ≤ 4000000000000 by omega)]
    refine Ev.bind h1 ?_
    have hc : (∀ n, n ∈ zi left.reverse → 0 ≤ n ∧ n < (l.length : Int)) ∧ (zi left.reverse).length ≤ 4000000000000 := ⟨fun x hx => by
      unfold zi at hx
      obtain ⟨y, hy, e⟩ := List.mem_map.1 hx
      have := T.lt y (List.mem_reverse.1 hy); omega, by rw [zi_len]; simp; omega⟩
    dsimp only
    rw [show (fun k : Nat => if (∀ n, n ∈ zi left.reverse → 0 ≤ n ∧ n < (l.length : Int)) ∧ (zi left.reverse).length ≤ 4000000000000 then some (flow_marks (zi left.reverse) l.length) else none) = fun _ => some (flow_marks (zi left.reverse) l.length) from funext fun k => if_pos hc]
    exact Ev.now _
theorem leads_all (a0 : ByteArray) (a1 : Bool) (a2 a3 : Int) (l4 : List S76) (l5 : List S45) (h : a3 ≤ 30 ∧ law_okP l5) : leads_ok a0 a1 a2 a3 l4 l5 := by
  have hl : l5.length ≤ 40 := h.2.1
  obtain ⟨st, left, bk, T, hll, ⟨K1, h1⟩, ⟨K2, h2⟩, ⟨K3, h3⟩, hW⟩ := flows a0 a1 a2 a3 l4 l5 hl
  obtain ⟨e1, e2⟩ := reach_eq a0 a1 a2 a3 l4 l5 hl left bk T
  obtain ⟨K4, h4⟩ := flowPreds_ev a0 a1 a2 a3 l4 l5 hl
  obtain ⟨K5, h5⟩ := refReach_ev a0 a1 a2 a3 l4 l5 hl
  have hO : Ev (fun k => ref_Order.f k a0 a1 a2 a3 l4 l5) (zi left.reverse) := by
    unfold ref_Order.f
    simp only [if_pos (show l5.length ≤ 4000000000000 by omega)]
    refine Ev.bind hW ?_
    dsimp only
    rw [show (fun k : Nat => if (zi left).length ≤ 4000000000000 then some (zi left).reverse else none) = fun _ => some (zi left.reverse) from funext fun k => by rw [if_pos (by rw [zi_len]; omega)]; unfold zi; rw [List.map_reverse]]
    exact Ev.now _
  obtain ⟨K6, h6⟩ := hO
  obtain ⟨K7, h7⟩ := hW
  obtain ⟨K8, h8⟩ := same_ev (zi left.reverse) (by rw [zi_len]; simp; omega)
  have hP : ∀ i, i < l5.length → rd_L4 (tableAt l5 l5.length 0) (i : Int) = zi (predsTo l5 i l5.length) := fun i hi => by
    unfold rd_L4
    rw [Int.toNat_natCast, table_get _ _ _ _ hi, List.take_zero]; simp
  obtain ⟨K9, h9⟩ := Ev.upto (f := fun i k => rushlightref16_Preds.f k a0 a1 a2 a3 l4 l5 (i : Int)) (g := fun i => rd_L4 (tableAt l5 l5.length 0) (i : Int)) l5.length (fun i hi => by rw [hP i hi]; exact refPreds_ev a0 a1 a2 a3 l4 l5 hl i)
  obtain ⟨K10, h10⟩ := Ev.upto (f := fun i k => rushlightlaw16_same.f k (rd_L4 (tableAt l5 l5.length 0) (i : Int)) (rd_L4 (tableAt l5 l5.length 0) (i : Int))) (g := fun i => true) l5.length (fun i hi => same_ev _ (by rw [hP i hi, zi_len]; have := predsTo_len l5 i l5.length; omega))
  dsimp only at h1 h2 h3 h4 h5 h6 h7 h8 h9 h10
  have hk : ∀ i ∈ [K1, K2, K3, K4, K5, K6, K7, K8, K9, K10], i ≤ K1 + K2 + K3 + K4 + K5 + K6 + K7 + K8 + K9 + K10 := by
    intro i hi
    simp only [List.mem_cons, List.not_mem_nil, or_false] at hi
    omega
  refine ⟨K1 + K2 + K3 + K4 + K5 + K6 + K7 + K8 + K9 + K10, tableAt l5 l5.length 0, flow_marks (zi left.reverse) l5.length, zp bk, zi left.reverse, zi st, zi left, hl, h4 _ (by omega), h3 _ (by omega), h2 _ (by omega), ?_, h7 _ (by omega), h1 _ (by omega), h6 _ (by omega), h8 _ (by omega), table_len _ _ _, e2, by rw [zp_len]; exact T.lbk, fun i hi => h9 i hi _ (by omega), fun i hi => h10 i hi _ (by omega)⟩
  rw [e1]; exact h5 _ (by omega)
theorem flowLeads (a0 : ByteArray) (a1 : Bool) (a2 a3 : Int) (A4 : Option Addr) (c4 : Nat) (l4 : List S76) (A5 : Option Addr) (c5 : Nat) (l5 : List S45) (w : World)
    (hr4 : Kd.C k76 w A4 l4.length l4) (hc4 : l4.length ≤ c4) (hr5 : Kd.C k45 w A5 l5.length l5) (hc5 : l5.length ≤ c5) :
    Calls Try.prog 7 #[.agg #[.string a0, .bool a1, .int .i64 a2, .int .i64 a3, .slice A4 l4.length c4, .slice A5 l5.length c5]] w fun e w' => e = .returned (.bool true) ∧ Below w.heap.size w w' :=
  flow_FlowLeads.walk a0 a1 a2 a3 A4 c4 l4 A5 c5 l5 w hr4 hc4 hr5 hc5 (leads_all a0 a1 a2 a3 l4 l5)
end Go.Proofs.Ytppanpboejpmjaa.Mf
