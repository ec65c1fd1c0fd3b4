/- For any list of records and any values the program and the reference agree on whether the list begins, or is, what should come out: RecordBegins answers true. No condition. -/
import Derived.Test.YtkogbckiglilbaaSayRecordBegins
import Derived.Test.YtkogbckiglilbaaLoops
namespace Go.Proofs.Ytkogbckiglilbaa.Pure
open Go Go.RowKit Go.Proofs.Ytkogbckiglilbaa.All Go.Proofs.Ytkogbckiglilbaa.AllTypes Go.Proofs.Ytkogbckiglilbaa.Math Go.Proofs.YtkogbckiglilbaaW.PrintWords Go.Proofs.YtkogbckiglilbaaW.PrintLast

/-- whether values begin others -/
def pre : List Int → List Int → Bool
  | [], _ => true
  | _ :: _, [] => false
  | a :: v, b :: o => if a = b then pre v o else false
theorem pre_length : ∀ (v o : List Int), pre v o = true → v.length ≤ o.length
  | [], _, _ => Nat.zero_le _
  | _ :: _, [], h => by simp [pre] at h
  | a :: v, b :: o, h => by
    simp only [pre] at h
    split at h
    · have := pre_length v o h; simp; omega
    · cases h
theorem begins_loop (o v : List Int) (hv : v.length ≤ 1000) (hvo : v.length ≤ o.length) : ∀ (d i : Nat), i + d = v.length →
    Ev (fun k => record_Begins.l0 k o v (v.length : Int) (i : Int)) (pre (v.drop i) (o.drop i)) := by
  intro d
  induction d with
  | zero =>
    intro i hi
    have e : v.drop i = [] := List.drop_of_length_le (by omega)
    rw [e]
    refine Ev.const fun k => ?_
    simp only [record_Begins.l0]
    rw [if_neg (by omega)]; rfl
  | succ d ih =>
    intro i hi
    obtain ⟨x, hx, ex⟩ := drop_at (l := v) (i := i) (by omega)
    obtain ⟨y, hy, ey⟩ := drop_at (l := o) (i := i) (by omega)
    rw [ex, ey]
    have hw : wrap64 ((i : Int) + 1) = ((i + 1 : Nat) : Int) := by rw [w64 (by omega) (by omega)]; rfl
    have body : ∀ k, record_Begins.l0 (k + 1) o v (v.length : Int) (i : Int) = if x = y then record_Begins.l0 k o v (v.length : Int) ((i + 1 : Nat) : Int) else some false := by
      intro k
      simp only [record_Begins.l0]
      rw [if_pos (by omega), if_pos (by omega), if_pos (by omega), if_pos (by omega), atn hx, atn hy, hw]
    refine Ev.step body ?_
    simp only [pre]
    by_cases h : x = y
    · simp only [if_pos h]; exact ih (i + 1) (by omega)
    · simp only [if_neg h]; exact Ev.now _
/-- what Begins answers, by either text -/
def begins (l : List S38) (o : List Int) : Bool := pre ((record_First.go [] l).map (·.f1)) o && (run [] l).isSome
theorem begins_ev {l : List S38} {o : List Int} (hl : l.length ≤ 1000) (hg : Math.Good l) : Ev (fun k => record_Begins.f k l o) (begins l o) := by
  have hn := go_length l []
  unfold record_Begins.f
  refine Ev.bind (values_ev hl hg) (Ev.bind (orderly_ev hl hg) ?_)
  unfold begins
  cases hr : (run [] l).isSome with
  | false =>
    rw [Bool.and_false]
    simp only [Bool.false_eq_true, if_false]
    exact Ev.const fun k => by simp only [record_Begins.j0, if_true]
  | true =>
    rw [Bool.and_true]
    simp only [if_true]
    by_cases h : ((record_First.go [] l).map (·.f1)).length ≤ o.length
    · have e : decide ((((record_First.go [] l).map (·.f1)).length : Int) > (o.length : Int)) = false := decide_eq_false (by omega)
      simp only [e]
      refine Ev.step (fun k => by simp only [record_Begins.j0, Bool.false_eq_true, if_false]; rfl) (begins_loop o _ (by simp; omega) h _ 0 (Nat.zero_add _))
    · have e : decide ((((record_First.go [] l).map (·.f1)).length : Int) > (o.length : Int)) = true := decide_eq_true (by omega)
      simp only [e]
      have e2 : pre ((record_First.go [] l).map (·.f1)) o = false := by
        rw [← Bool.not_eq_true]; intro h2; exact h (pre_length _ _ h2)
      rw [e2]
      exact Ev.const fun k => by simp only [record_Begins.j0, if_true]
theorem whole_ev {l : List S38} {o : List Int} (hl : l.length ≤ 1000) (hg : Math.Good l) : Ev (fun k => record_Whole.f k l o) (begins l o && decide ((record_First.go [] l).length = o.length)) := by
  unfold record_Whole.f
  refine Ev.bind (begins_ev hl hg) ?_
  cases begins l o with
  | false => simp only [Bool.false_eq_true, if_false, Bool.false_and]; exact Ev.now _
  | true =>
    simp only [if_true, Bool.true_and]
    refine Ev.bind (values_ev hl hg) ?_
    have e : ((((record_First.go [] l).map (·.f1)).length : Int) == (o.length : Int)) = decide ((record_First.go [] l).length = o.length) := by
      rw [Bool.eq_iff_iff]; simp; omega
    rw [e]; exact Ev.now _
theorem refbegins_loop (l : List S38) (hl : l.length ≤ 1000) (hg : Math.Good l) (o : List Int) (f : List S38) (hf : f.length ≤ 1000) : ∀ (d i : Nat), i + d = f.length →
    Ev (fun k => rushlightref04_Begins.l0 k (l.map cv) o (f.map cv) (i : Int)) (pre ((f.drop i).map (·.f1)) (o.drop i) && (run [] l).isSome) := by
  intro d
  induction d with
  | zero =>
    intro i hi
    have e : f.drop i = [] := List.drop_of_length_le (by omega)
    rw [e]
    refine Ev.step (fun k => by simp only [rushlightref04_Begins.l0]; rw [List.length_map, if_neg (by omega)]) (Ev.bind (reforderly_ev hl hg) ?_)
    simp only [List.map_nil, pre, Bool.true_and]
    exact Ev.now _
  | succ d ih =>
    intro i hi
    obtain ⟨x, hx, ex⟩ := drop_at (l := f) (i := i) (by omega)
    rw [ex]
    have hw : wrap64 ((i : Int) + 1) = ((i + 1 : Nat) : Int) := by rw [w64 (by omega) (by omega)]; rfl
    by_cases hio : i < o.length
    · obtain ⟨y, hy, ey⟩ := drop_at (l := o) (i := i) hio
      rw [ey]
      have body : ∀ k, rushlightref04_Begins.l0 (k + 1) (l.map cv) o (f.map cv) (i : Int) = if x.f1 = y then rushlightref04_Begins.l0 k (l.map cv) o (f.map cv) ((i + 1 : Nat) : Int) else some false := by
        intro k
        simp only [rushlightref04_Begins.l0]
        rw [List.length_map, if_pos (by omega), if_neg (by omega), if_pos (by omega), if_pos (by omega), at35 (map_at hx), atn hy, hw]; rfl
      refine Ev.step body ?_
      simp only [List.map_cons, pre]
      by_cases h : x.f1 = y
      · simp only [if_pos h]; exact ih (i + 1) (by omega)
      · simp only [if_neg h, Bool.false_and]; exact Ev.now _
    · have e : o.drop i = [] := List.drop_of_length_le (by omega)
      rw [e]
      refine Ev.const fun k => ?_
      simp only [rushlightref04_Begins.l0]
      rw [List.length_map, if_pos (by omega), if_pos (by omega)]; rfl
theorem refbegins_ev {l : List S38} {o : List Int} (hl : l.length ≤ 1000) (hg : Math.Good l) : Ev (fun k => rushlightref04_Begins.f k (l.map cv) o) (begins l o) := by
  have hn := go_length l []
  unfold rushlightref04_Begins.f
  refine Ev.bind (reffirst_ev hl) ?_
  exact refbegins_loop l hl hg o (record_First.go [] l) (by omega) _ 0 (Nat.zero_add _)
theorem RecordBegins : Say.RecordBegins := by
  intro l o ⟨_, hg0⟩ _
  have hg := good_of hg0
  apply Ev.rounds
  unfold rushlightlaw04_RecordBegins.f
  have out : ∀ b : Bool, b = true → Ev (fun k => rushlightlaw04_RecordBegins.j0 k l o b) true := by
    intro b hb
    subst hb
    exact Ev.step (fun k => by simp only [rushlightlaw04_RecordBegins.j0, if_true]) (Ev.bind awake_ev (Ev.now _))
  by_cases hlen : (l.length : Int) > 300
  · simp only [if_pos hlen]
    exact out true rfl
  · simp only [if_neg hlen]
    by_cases hlo : (o.length : Int) > 300
    · exact out _ (decide_eq_true hlo)
    · simp only [decide_eq_false hlo]
      have hl : l.length ≤ 1000 := by omega
      refine Ev.step (fun k => by simp only [rushlightlaw04_RecordBegins.j0, Bool.false_eq_true, if_false]; rfl) ?_
      refine Ev.bind (ref_ev hl) (Ev.bind (refbegins_ev hl hg) (Ev.bind awake_ev ?_))
      simp only [if_true]
      refine Ev.bind (begins_ev hl hg) ?_
      simp only [beq_self_eq_true, if_true]
      refine Ev.bind (whole_ev hl hg) ?_
      cases begins l o with
      | false => simp only [Bool.false_eq_true, if_false, Bool.false_and]; exact Ev.now _
      | true =>
        simp only [if_true, Bool.true_and]
        refine Ev.bind (reffirst_ev hl) ?_
        have e : (decide ((record_First.go [] l).length = o.length) == (((((record_First.go [] l).map cv).length : Int)) == (o.length : Int))) = true := by
          rw [beq_iff_eq, Bool.eq_iff_iff]; simp; omega
        rw [e]; exact Ev.now _

end Go.Proofs.Ytkogbckiglilbaa.Pure
