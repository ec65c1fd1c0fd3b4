/- The law FlowRound: the walk and the plain law joined. -/
import Derived.Test.YtppanpboejpmjaaMfN
import Derived.Test.YtppanpboejpmjaaFlowRoundW
set_option linter.all false
namespace Go.Proofs.Ytppanpboejpmjaa.Mf
open Go Go.RowKit Go.Proofs.Ytppanpboejpmjaa.Tr Go.Proofs.YtppanpboejpmjaaW.PrintWords Go.Proofs.YtppanpboejpmjaaW.PrintLast

theorem rd_set {l : List Int} {i j : Nat} {v : Int} (hi : i < l.length) : rd (l.set i v) (j : Int) = if j = i then v else rd l (j : Int) := by
  unfold rd
  rw [Int.toNat_natCast]
  by_cases e : j = i
  · subst e; rw [if_pos rfl]; exact getD_set_self hi
  · rw [if_neg e]; exact getD_set_ne (Ne.symm e)
theorem zi_rd' (o : List Nat) (i : Nat) (hi : i < o.length) : rd (zi o) (i : Int) = (o[i] : Nat) := by
  rw [zi_rd, List.getD_eq_getElem?_getD, List.getElem?_eq_getElem hi]; rfl
/-- the places, as they are noted -/
theorem at_told (o : List Nat) (N : Nat) (hnd : o.Nodup) (hlt : ∀ x ∈ o, x < N) : ∀ i, i ≤ o.length → (∀ j (hj : j < o.length), j < i → rd (atI (zi o) N i) ((o[j] : Nat) : Int) = (j : Int) + 1) ∧ (∀ x, x ∉ o.take i → rd (atI (zi o) N i) (x : Int) = 0)
  | 0, _ => ⟨fun j hj h => by omega, fun x _ => by
    unfold rd atI
    rw [Int.toNat_natCast, List.getD_eq_getElem?_getD, List.getElem?_replicate]; split <;> rfl⟩
  | i + 1, hi => by
    obtain ⟨h1, h2⟩ := at_told o N hnd hlt i (by omega)
    have hio : i < o.length := by omega
    have hx := hlt o[i] (List.getElem_mem hio)
    have hset : ∀ y : Nat, rd (atI (zi o) N (i + 1)) (y : Int) = if y = o[i] then (i : Int) + 1 else rd (atI (zi o) N i) (y : Int) := by
      intro y
      rw [atI, zi_rd' o i hio, Int.toNat_natCast]
      exact rd_set (by rw [atI_len]; exact hx)
    refine ⟨fun j hj hji => ?_, fun x hxm => ?_⟩
    · rw [hset]
      by_cases e : j = i
      · subst e; rw [if_pos rfl]
      · have hne : ¬ o[j] = o[i] := fun h => e ((List.getElem_inj hnd).1 h)
        rw [if_neg hne]; exact h1 j hj (by omega)
    · rw [List.take_succ_eq_append_getElem hio, List.mem_append, List.mem_singleton] at hxm
      rw [hset, if_neg (fun h => hxm (.inr h))]
      exact h2 x (fun h => hxm (.inl h))
theorem isBack_eq (bk : List (Nat × Nat)) (n t : Nat) : isBack (zp bk) (n : Int) (t : Int) (zp bk).length = decide ((n, t) ∈ bk) := by
  unfold isBack
  rw [List.take_length]
  unfold zp
  induction bk with
  | nil => simp
  | cons a bk ih =>
    rw [List.map_cons, List.any_cons, ih]
    obtain ⟨x, y⟩ := a
    by_cases h1 : x = n
    · by_cases h2 : y = t
      · subst h1; subst h2; simp
      · have : ¬ t = y := fun e => h2 e.symm
        subst h1; simp [h2, this]
        intro e; omega
    · have : ¬ n = x := fun e => h1 e.symm
      simp [h1, this]
      intro e; omega
theorem round_all (a0 : ByteArray) (a1 : Bool) (a2 a3 : Int) (l4 : List S76) (l5 : List S45) (h : a3 ≤ 30 ∧ law_okP l5) : round_ok a0 a1 a2 a3 l4 l5 := by
  have hl : l5.length ≤ 40 := h.2.1
  obtain ⟨st, left, bk, T, hll, ⟨K1, h1⟩, ⟨K2, h2⟩, ⟨K3, h3⟩, hW⟩ := flows a0 a1 a2 a3 l4 l5 hl
  obtain ⟨K4, h4⟩ := Ev.upto (f := fun n k => rushlightref16_Outs.f k a0 a1 a2 a3 l4 l5 (n : Int)) (g := fun n => outsOf l5 n) l5.length (fun n hn => refOuts a0 a1 a2 a3 l4 l5 n hn)
  dsimp only at h1 h2 h3 h4
  have hnd : left.reverse.Nodup := List.pairwise_reverse.2 (T.nd.imp (fun h => Ne.symm h))
  have hlt : ∀ x ∈ left.reverse, x < l5.length := fun x hx => T.lt x (List.mem_reverse.1 hx)
  have hm := marks_get (zi left.reverse) l5.length (fun x hx => by
    unfold zi at hx
    obtain ⟨y, hy, e⟩ := List.mem_map.1 hx
    have := hlt y hy; omega)
  have hR : ∀ n : Nat, rdOf false (flow_marks (zi left.reverse) l5.length) (n : Int) = true ↔ n ∈ left := by
    intro n
    unfold rdOf
    rw [Int.toNat_natCast, hm n, zi_mem, List.mem_reverse]
  have hat := at_told left.reverse l5.length hnd hlt
  obtain ⟨full1, full2⟩ := hat left.reverse.length (Nat.le_refl _)
  rw [List.take_length] at full2
  have hAlen : (zi left.reverse).length = left.reverse.length := zi_len _
  refine ⟨K1 + K2 + K3 + K4, zi left.reverse, zp bk, flow_marks (zi left.reverse) l5.length, hl, h1 _ (by omega), h2 _ (by omega), h3 _ (by omega), flow_marks_length _ _, by rw [zp_len]; exact T.lbk, by rw [zi_len]; simp; omega, ?_, ?_, ?_⟩
  · intro i hi
    rw [hAlen] at hi
    rw [zi_rd' left.reverse i hi]
    have hmem := List.getElem_mem hi
    have hx := hlt _ hmem
    refine ⟨by omega, by omega, ?_, (hR _).2 (List.mem_reverse.1 hmem), fun h0 => ?_⟩
    · refine (hat i (by omega)).2 _ (fun hin => ?_)
      obtain ⟨j, hj⟩ := List.mem_iff_getElem?.1 hin
      have hjl := (List.getElem?_eq_some_iff.1 hj).1
      rw [List.length_take] at hjl
      rw [List.getElem?_take_of_lt (by omega), List.getElem?_eq_getElem (by omega)] at hj
      have := (List.getElem_inj hnd).1 (Option.some.inj hj)
      omega
    · subst h0
      have hne : left ≠ [] := by intro e; subst e; simp at hi
      have hpos : 0 < l5.length := by
        have := T.lt _ (List.getElem_mem (show 0 < left.length by have := List.length_pos_iff.2 hne; omega)); omega
      obtain ⟨nl, e⟩ := T.last hpos
      subst e
      simp
  · intro n hn
    rw [hAlen]
    by_cases hmem : n ∈ left
    · rw [(hR n).2 hmem]
      obtain ⟨j, hj, e⟩ := List.getElem_of_mem (List.mem_reverse.2 hmem)
      rw [← e, full1 j hj hj]
      symm; apply decide_eq_true; omega
    · have : rdOf false (flow_marks (zi left.reverse) l5.length) (n : Int) = false := by
        have := mt (hR n).1 hmem; simpa using this
      rw [this, full2 n (fun h => hmem (List.mem_reverse.1 h))]; rfl
  · intro n hn
    refine ⟨outsOf l5 n, h4 n hn _ (by omega), outs_len l5 n, fun t ht => ?_⟩
    have hb := outs_mem ht
    obtain ⟨tn, rfl⟩ := Int.eq_ofNat_of_zero_le hb.1
    refine ⟨hb.1, hb.2, fun hr => ?_⟩
    have hmem := (hR n).1 hr
    obtain ⟨p, q, e⟩ := List.append_of_mem hmem
    obtain ⟨g1, g2⟩ := T.edge p n q e tn (succ_mem.2 ht)
    rw [isBack_eq, hAlen]
    have hrev : left.reverse = q.reverse ++ n :: p.reverse := by rw [e]; simp
    have hn_at : rd (atI (zi left.reverse) l5.length left.reverse.length) (n : Int) = (q.length : Int) + 1 := by
      have hj : q.length < left.reverse.length := by rw [hrev]; simp
      have := full1 q.length hj hj
      have e2 : left.reverse[q.length] = n := by
        have : left.reverse[q.length]? = some n := by rw [hrev, List.getElem?_append_right (by simp)]; simp
        rw [List.getElem?_eq_getElem hj] at this; exact Option.some.inj this
      rw [e2] at this; exact this
    rw [hn_at]
    by_cases hp : tn ∈ p
    · have hnot : ¬ (n, tn) ∈ bk := fun h => (g2.1 h) hp
      obtain ⟨j, hj, e3⟩ := List.getElem_of_mem (List.mem_reverse.2 hp)
      have hj2 : q.length + 1 + j < left.reverse.length := by rw [hrev]; simp at hj ⊢; omega
      have := full1 (q.length + 1 + j) hj2 hj2
      have e2 : left.reverse[q.length + 1 + j] = tn := by
        have : left.reverse[q.length + 1 + j]? = some tn := by
          rw [hrev, List.getElem?_append_right (by simp; omega), show q.length + 1 + j - q.reverse.length = j + 1 by simp; omega, List.getElem?_cons_succ, List.getElem?_eq_getElem hj, e3]
        rw [List.getElem?_eq_getElem hj2] at this; exact Option.some.inj this
      rw [e2] at this
      rw [this, decide_eq_false hnot, decide_eq_true (by omega)]; rfl
    · have hyes : (n, tn) ∈ bk := g2.2 hp
      have hle : rd (atI (zi left.reverse) l5.length left.reverse.length) (tn : Int) ≤ (q.length : Int) + 1 := by
        obtain ⟨j, hj, e3⟩ := List.getElem_of_mem (List.mem_reverse.2 g1)
        rw [← e3, full1 j hj hj]
        have : j ≤ q.length := by
          apply Decidable.byContradiction
          intro hgt
          apply hp
          have : left.reverse[j]? = some tn := by rw [List.getElem?_eq_getElem hj, e3]
          rw [hrev, List.getElem?_append_right (by simp; omega)] at this
          obtain ⟨i, hi⟩ : ∃ i, j - q.reverse.length = i + 1 := ⟨j - q.length - 1, by simp; omega⟩
          rw [hi, List.getElem?_cons_succ] at this
          exact List.mem_reverse.1 (List.mem_of_getElem? this)
        omega
      rw [decide_eq_true hyes, decide_eq_false (by omega)]; rfl
theorem flowRound (a0 : ByteArray) (a1 : Bool) (a2 a3 : Int) (A4 : Option Addr) (c4 : Nat) (l4 : List S76) (A5 : Option Addr) (c5 : Nat) (l5 : List S45) (w : World)
    (hr4 : Kd.C k76 w A4 l4.length l4) (hc4 : l4.length ≤ c4) (hr5 : Kd.C k45 w A5 l5.length l5) (hc5 : l5.length ≤ c5) :
    Calls Try.prog 5 #[.agg #[.string a0, .bool a1, .int .i64 a2, .int .i64 a3, .slice A4 l4.length c4, .slice A5 l5.length c5]] w fun e w' => e = .returned (.bool true) ∧ Below w.heap.size w w' :=
  flow_FlowRound.walk a0 a1 a2 a3 A4 c4 l4 A5 c5 l5 w hr4 hc4 hr5 hc5 (round_all a0 a1 a2 a3 l4 l5)
end Go.Proofs.Ytppanpboejpmjaa.Mf
