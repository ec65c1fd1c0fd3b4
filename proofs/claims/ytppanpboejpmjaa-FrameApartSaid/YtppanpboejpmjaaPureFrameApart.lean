import Derived.Test.YtppanpboejpmjaaSayFrameApart
import Derived.Test.YtppanpboejpmjaaMathAwake25
namespace Go.Proofs.Ytppanpboejpmjaa.Math
open Go Go.RowKit Go.Proofs.Ytppanpboejpmjaa.Tr Go.Proofs.Ytppanpboejpmjaa.TrTypes Go.Proofs.YtppanpboejpmjaaW.PrintWords Go.Proofs.YtppanpboejpmjaaW.PrintLast
/-- rows that lie one behind the other, below c -/
structure Rw (c : Int) (a b : List Int) : Prop where
  len : a.length = b.length
  each : ∀ (i : Nat) (s w : Int), a[i]? = some s → b[i]? = some w → 0 ≤ s ∧ s % 4 = 0 ∧ 0 ≤ w ∧ s + w ≤ c
  apart : ∀ (i j : Nat) (s w t : Int), i < j → a[i]? = some s → b[i]? = some w → a[j]? = some t → s + w ≤ t
theorem snoc_cases {a : List Int} {x y : Int} {i : Nat} (h : (a ++ [x])[i]? = some y) : (i < a.length ∧ a[i]? = some y) ∨ (i = a.length ∧ y = x) := by
  by_cases hi : i < a.length
  · exact .inl ⟨hi, by rw [List.getElem?_append_left hi] at h; exact h⟩
  · rw [List.getElem?_append_right (by omega)] at h
    have : i - a.length = 0 := by
      by_cases h0 : i - a.length = 0
      · exact h0
      · rw [List.getElem?_eq_none (by simp; omega)] at h; simp at h
    rw [this] at h
    simp at h
    exact .inr ⟨by omega, h.symm⟩
theorem Rw.snoc {c c' : Int} {a b : List Int} (h : Rw c a b) {s w : Int} (h0 : 0 ≤ c) (h1 : c ≤ s) (h2 : s % 4 = 0) (h3 : 0 ≤ w) (h4 : s + w ≤ c') : Rw c' (a ++ [s]) (b ++ [w]) := by
  refine ⟨by simp [h.len], fun i s' w' hs hw => ?_, fun i j s' w' t hij hs hw ht => ?_⟩
  · have hl := h.len
    rcases snoc_cases hs with ⟨i1, e1⟩ | ⟨i1, e1⟩ <;> rcases snoc_cases hw with ⟨i2, e2⟩ | ⟨i2, e2⟩
    · have := h.each i s' w' e1 e2; omega
    · omega
    · omega
    · subst e1; subst e2; omega
  · have hl := h.len
    rcases snoc_cases ht with ⟨i3, e3⟩ | ⟨i3, e3⟩
    · rcases snoc_cases hs with ⟨i1, e1⟩ | ⟨i1, e1⟩
      · rcases snoc_cases hw with ⟨i2, e2⟩ | ⟨i2, e2⟩
        · exact h.apart i j s' w' t hij e1 e2 e3
        · omega
      · omega
    · rcases snoc_cases hs with ⟨i1, e1⟩ | ⟨i1, e1⟩
      · rcases snoc_cases hw with ⟨i2, e2⟩ | ⟨i2, e2⟩
        · have := h.each i s' w' e1 e2; omega
        · omega
      · omega
section
variable (size : Int) (hsz : 0 ≤ size ∧ size ≤ 2000) (hs4 : size % 4 = 0)
variable (r1 r3 : List Int) (r2 : Int)
include hsz hs4
theorem mark_loop (a b : List Int) (i : Nat) (s w : Int) (ha : a[i]? = some s) (hb : b[i]? = some w) (h0 : 0 ≤ s) (h1 : 0 ≤ w) (h2 : s + w ≤ size) (hlen : a.length ≤ 100000)
    (hk : ∀ m : List Bool, m.length = size.toNat → (∀ n : Nat, m[n]? = some true → (n : Int) < s + w) → Ev (fun k => rushlightlaw25_FrameApart.l3 k m a b ((i + 1 : Nat) : Int) size r1 r2 r3) true) :
    ∀ (d j : Nat) (m : List Bool), (j : Int) + (d : Int) = w → m.length = size.toNat → (∀ n : Nat, m[n]? = some true → (n : Int) < s + (j : Int)) →
      Ev (fun k => rushlightlaw25_FrameApart.l4 k m a b (i : Int) (j : Int) size r1 r2 r3) true := by
  have hia := (List.getElem?_eq_some_iff.1 ha).1
  have hib := (List.getElem?_eq_some_iff.1 hb).1
  intro d
  induction d with
  | zero =>
    intro j m hj hm hq
    have e : (j : Int) = w := by omega
    rw [e] at hq
    refine Ev.step (fun k => ?_) (hk m hm hq)
    simp only [rushlightlaw25_FrameApart.l4]
    rw [if_pos (by omega), if_pos (by omega), atn hb, if_neg (by omega), next_i (n := a.length) (by omega) (by omega)]
  | succ d ih =>
    intro j m hj hm hq
    have hp : wrap64 (s + (j : Int)) = s + (j : Int) := w64 (by omega) (by omega)
    have hi : (s + (j : Int)).toNat < m.length := by omega
    have hf : rdOf false m (s + (j : Int)) = false := by
      cases h : m[(s + (j : Int)).toNat]? with
      | none => rw [List.getElem?_eq_none_iff] at h; omega
      | some x =>
        cases x with
        | false => simp [rdOf, h]
        | true => have := hq _ h; omega
    refine Ev.step (fun k => ?_) (ih (j + 1) (m.set (s + (j : Int)).toNat true) (by omega) (by simp [hm]) (fun n hn => ?_))
    · simp only [rushlightlaw25_FrameApart.l4]
      rw [if_pos (by omega), if_pos (by omega), atn hb, atn ha, if_pos (by omega), if_pos (by omega), hp, if_pos (by omega), if_pos (by omega), hf, if_neg (by simp), next_i (n := w.toNat) (by omega) (by omega)]
    · by_cases e : n = (s + (j : Int)).toNat
      · omega
      · rw [List.getElem?_set_ne (by omega)] at hn
        have := hq n hn; omega
theorem check_loop (a b : List Int) (h : Rw size a b) (hlen : a.length ≤ 100000) : ∀ (d i : Nat) (m : List Bool), i + d = a.length → m.length = size.toNat → (∀ n : Nat, m[n]? = some true → ∀ j t, i ≤ j → a[j]? = some t → (n : Int) < t) →
    Ev (fun k => rushlightlaw25_FrameApart.l3 k m a b (i : Int) size r1 r2 r3) true := by
  have hl := h.len
  intro d
  induction d with
  | zero =>
    intro i m hi hm hq
    refine Ev.step (f := fun k => (rushlightlaw25_awake.f k).bind fun t => if t = true then some (Int.tmod size 4 == 0) else some false) (fun k => ?_) (Ev.bind awake25_ev ?_)
    · simp only [rushlightlaw25_FrameApart.l3]
      rw [if_neg (by omega)]
    · simp only [if_true]
      have : (Int.tmod size 4 == 0) = true := by rw [Int.tmod_eq_emod_of_nonneg (by omega), hs4]; rfl
      rw [this]; exact Ev.now _
  | succ d ih =>
    intro i m hi hm hq
    obtain ⟨s, hs, _⟩ := drop_at (l := a) (i := i) (by omega)
    obtain ⟨w, hw, _⟩ := drop_at (l := b) (i := i) (by omega)
    obtain ⟨e1, e2, e3, e4⟩ := h.each i s w hs hw
    have := mark_loop size hsz hs4 r1 r3 r2 a b i s w hs hw e1 e3 e4 hlen (fun m' h1 h2 => ih (i + 1) m' (by omega) h1 (fun n hn j t hj ht => by
      have := h2 n hn
      have := h.apart i j s w t (by omega) hs hw ht
      omega)) w.toNat 0 m (by omega) hm (fun n hn => by have := hq n hn i s (Nat.le_refl _) hs; omega)
    refine Ev.step (f := fun k => rushlightlaw25_FrameApart.j6 k m a b (i : Int) false size r1 r2 r3) (fun k => ?_) (Ev.step (fun k => ?_) this)
    · simp only [rushlightlaw25_FrameApart.l3]
      rw [if_pos (by omega), if_pos (by omega), atn hs, if_neg (by omega), if_pos (by rw [Int.tmod_eq_emod_of_nonneg (by omega)]; exact e2), if_neg (by omega), if_pos (by omega), atn hw, w64 (by omega) (by omega), decide_eq_false (by omega)]
    · simp only [rushlightlaw25_FrameApart.j6]
      rw [if_neg (by simp), Int.natCast_zero]
end
theorem places_get (l : List S76) : ∀ (out : List Int) (x : Int), ∃ q, (places out x l).1 = out ++ q := by
  induction l with
  | nil => intro out x; exact ⟨[], by simp [places]⟩
  | cons o l ih =>
    intro out x
    obtain ⟨q, hq⟩ := ih (out ++ [x]) (up (x + o.f1))
    exact ⟨x :: q, by simp only [places]; rw [hq]; simp⟩
section
variable (l : List S76) (hl : l.length ≤ 60) (hz : l.all okSize = true) (n S : Nat) (hn : n ≤ 600) (hS : S ≤ 12) (sv : List Int) (hsv : sv.length = S)
variable (base size : Int) (hbase : base = 4 + 4 * (S : Int) + 4 * (n : Int)) (hsize : size = base + (places [] 0 l).2) (hfit : size ≤ 2000)
variable (a0 : ByteArray) (a1 : Bool) (a2 a3 : Int) (l5 : List S45) (pl : List Int) (hpl : pl = (places [] 0 l).1.map (fun x => base + x)) (f1 : Int)
include hl hz hn hS hbase hsize hfit hpl
theorem objects_loop (hs4 : size % 4 = 0) (h0 : 0 ≤ size) : ∀ (d i : Nat) (out : List Int) (x : Int) (a b : List Int), i + d = l.length → out.length = i → places out x (l.drop i) = places [] 0 l → 0 ≤ x → x % 4 = 0 → Rw (base + x) a b → a.length = 1 + S + n + i →
    Ev (fun k => rushlightlaw25_FrameApart.l2 k (List.replicate size.toNat false) a b (i : Int) a0 a1 a2 a3 l l5 size sv f1 pl) true := by
  obtain ⟨p1, p2, p3, p4⟩ := places_at l hz [] 0 (Int.le_refl _) (by simp)
  have hpll : pl.length = l.length := by rw [hpl, List.length_map, p1]; simp
  intro d
  induction d with
  | zero =>
    intro i out x a b hi ho hp hx0 hx4 hR ha
    have e : l.drop i = [] := List.drop_of_length_le (by omega)
    rw [e] at hp
    simp only [places] at hp
    have hx : x = (places [] 0 l).2 := by rw [← hp]
    have hR' : Rw size a b := by rw [hsize, ← hx]; exact hR
    refine Ev.step (f := fun k => rushlightlaw25_FrameApart.l3 k (List.replicate size.toNat false) a b ((0 : Nat) : Int) size sv f1 pl) (fun k => ?_) (check_loop size ⟨h0, hfit⟩ hs4 sv pl f1 a b hR' (by omega) a.length 0 _ (by omega) (by simp) (fun n hn => ?_))
    · simp only [rushlightlaw25_FrameApart.l2]
      rw [if_neg (by omega), Int.natCast_zero]
    · rw [List.getElem?_replicate] at hn
      split at hn <;> simp at hn
  | succ d ih =>
    intro i out x a b hi ho hp hx0 hx4 hR ha
    have hb := hR.len
    obtain ⟨o, hx, e⟩ := drop_at (l := l) (i := i) (by omega)
    have hok := List.all_eq_true.1 hz o (List.mem_of_getElem? hx)
    simp [okSize] at hok
    rw [e] at hp
    simp only [places] at hp
    have hu : up (x + o.f1) = (x + o.f1 + 3) / 4 * 4 := rfl
    have hpi : pl[i]? = some (base + x) := by
      obtain ⟨q, hq⟩ := places_get (l.drop (i + 1)) (out ++ [x]) (up (x + o.f1))
      rw [hp] at hq
      rw [hpl, List.getElem?_map, hq, List.append_assoc, List.getElem?_append_right (by omega)]
      simp [ho]
    have := ih (i + 1) (out ++ [x]) (up (x + o.f1)) (a ++ [base + x]) (b ++ [o.f1]) (by omega) (by simp [ho]) hp (by omega) (by omega)
      (hR.snoc (by omega) (Int.le_refl _) (by omega) (by omega) (by omega)) (by simp; omega)
    refine Ev.step (fun k => ?_) this
    simp only [rushlightlaw25_FrameApart.l2]
    rw [if_pos (by omega), if_pos (by omega), if_pos (by omega), if_pos (by omega), if_pos (by omega), atn hpi, at76 hx, next_i (n := l.length) (by omega) (by omega)]
theorem slots_loop (hs4 : size % 4 = 0) (h0 : 0 ≤ size) (hf : f1 = 4 + 4 * (S : Int)) : ∀ (d i : Nat) (a b : List Int), i + d = n → Rw (f1 + 4 * (i : Int)) a b → a.length = 1 + S + i →
    Ev (fun k => rushlightlaw25_FrameApart.l1 k (n : Int) (List.replicate size.toNat false) a b (i : Int) a0 a1 a2 a3 l l5 size sv f1 pl) true := by
  intro d
  induction d with
  | zero =>
    intro i a b hi hR ha
    have := objects_loop l hl hz n S hn hS sv base size hbase hsize hfit a0 a1 a2 a3 l5 pl hpl f1 hs4 h0 l.length 0 [] 0 a b (by omega) rfl rfl (by omega) (by omega) (by
      have e : base + 0 = f1 + 4 * (i : Int) := by omega
      rw [e]; exact hR) (by omega)
    refine Ev.step (fun k => ?_) this
    simp only [rushlightlaw25_FrameApart.l1]
    rw [if_neg (by omega), Int.natCast_zero]
  | succ d ih =>
    intro i a b hi hR ha
    have hb := hR.len
    have := ih (i + 1) (a ++ [f1 + 4 * (i : Int)]) (b ++ [4]) (by omega) (hR.snoc (by omega) (Int.le_refl _) (by omega) (by omega) (by omega)) (by simp; omega)
    have hfs : frame_Slot.f size sv f1 pl (i : Int) = some (f1 + 4 * (i : Int)) := by
      simp only [frame_Slot.f]
      rw [w64 (a := 4 * (i : Int)) (by omega) (by omega), w64 (by omega) (by omega)]
    refine Ev.step (fun k => ?_) this
    simp only [rushlightlaw25_FrameApart.l1]
    rw [if_pos (by omega), hfs]
    simp only [Option.bind_some]
    rw [if_pos (by omega), if_pos (by omega), next_i (n := n) (by omega) (by omega)]
include hsv in
theorem kept_loop (hs4 : size % 4 = 0) (h0 : 0 ≤ size) (hf : f1 = 4 + 4 * (S : Int)) : ∀ (d i : Nat) (a b : List Int), i + d = S → Rw (4 * ((i : Int) + 1)) a b → a.length = 1 + i →
    Ev (fun k => rushlightlaw25_FrameApart.l0 k (n : Int) (List.replicate size.toNat false) a b (i : Int) a0 a1 a2 a3 l l5 size sv f1 pl) true := by
  intro d
  induction d with
  | zero =>
    intro i a b hi hR ha
    have := slots_loop l hl hz n S hn hS sv base size hbase hsize hfit a0 a1 a2 a3 l5 pl hpl f1 hs4 h0 hf n 0 a b (by omega) (by
      have e : f1 + 4 * ((0 : Nat) : Int) = 4 * ((i : Int) + 1) := by omega
      rw [e]; exact hR) (by omega)
    refine Ev.step (fun k => ?_) this
    simp only [rushlightlaw25_FrameApart.l0]
    rw [if_neg (by omega), Int.natCast_zero]
  | succ d ih =>
    intro i a b hi hR ha
    have hb := hR.len
    have := ih (i + 1) (a ++ [4 * ((i : Int) + 1)]) (b ++ [4]) (by omega) (hR.snoc (by omega) (Int.le_refl _) (by omega) (by omega) (by omega)) (by simp; omega)
    have hfs : frame_Kept.f size sv f1 pl (i : Int) = some (4 * ((i : Int) + 1)) := by
      simp only [frame_Kept.f]
      rw [w64 (a := (i : Int) + 1) (by omega) (by omega), w64 (by omega) (by omega)]
    refine Ev.step (fun k => ?_) this
    simp only [rushlightlaw25_FrameApart.l0]
    rw [if_pos (by omega), hfs]
    simp only [Option.bind_some]
    rw [if_pos (by omega), if_pos (by omega), next_i (n := S) (by omega) (by omega)]
end
theorem places_four (l : List S76) : ∀ (out : List Int) (x : Int), x % 4 = 0 → (places out x l).2 % 4 = 0 := by
  induction l with
  | nil => intro out x h; exact h
  | cons o l ih =>
    intro out x h
    have hu : up (x + o.f1) = (x + o.f1 + 3) / 4 * 4 := rfl
    exact ih _ _ (by omega)
theorem apart_j1 (l : List S76) (s : List S80) (n : Int) (hl : l.length ≤ 60) (hz : l.all okSize = true) (h1 : 0 ≤ n) (h2 : n ≤ 600) (hfit : 4 + 4 * ((saved s).length : Int) + 4 * n + (places [] 0 l).2 ≤ 2000) (a0 : ByteArray) (a1 : Bool) (a2 a3 : Int) (l5 : List S45) :
    Ev (fun k => rushlightlaw25_FrameApart.j1 k n false a0 a1 a2 a3 l l5 (4 + 4 * ((saved s).length : Int) + 4 * n + (places [] 0 l).2) (saved s) (4 + 4 * ((saved s).length : Int)) ((places [] 0 l).1.map (fun x => 4 + 4 * ((saved s).length : Int) + 4 * n + x))) true := by
  have hlen := saved_length s
  obtain ⟨p1, p2, p3, p4⟩ := places_at l hz [] 0 (Int.le_refl _) (by simp)
  have p5 := places_four l [] 0 rfl
  obtain ⟨m, rfl⟩ : ∃ m : Nat, n = (m : Int) := ⟨n.toNat, by omega⟩
  have h4 : (4 + 4 * ((saved s).length : Int) + 4 * (m : Int) + (places [] 0 l).2) % 4 = 0 := by omega
  have h0 : 0 ≤ 4 + 4 * ((saved s).length : Int) + 4 * (m : Int) + (places [] 0 l).2 := by omega
  have := kept_loop l hl hz m (saved s).length (by omega) hlen (saved s) rfl _ _ rfl rfl hfit a0 a1 a2 a3 l5 _ rfl _ h4 h0 rfl (saved s).length 0 [0] [4] (by omega)
    ⟨rfl, fun i s w hs hw => by
      cases i with
      | zero => simp at hs hw; omega
      | succ i => simp at hs, fun i j s w t hij hs hw ht => by
      cases j with
      | zero => omega
      | succ j => simp at ht⟩ rfl
  refine Ev.step (fun k => ?_) this
  simp only [rushlightlaw25_FrameApart.j1]
  rw [if_neg (by simp), if_pos h0, if_pos (by omega), Int.natCast_zero]
end Go.Proofs.Ytppanpboejpmjaa.Math
namespace Go.Proofs.Ytppanpboejpmjaa.Pure
open Go.RowKit Go.Proofs.Ytppanpboejpmjaa.Tr Go.Proofs.Ytppanpboejpmjaa.TrTypes Go.Proofs.YtppanpboejpmjaaW.PrintWords Go.Proofs.YtppanpboejpmjaaW.PrintLast Go.Proofs.Ytppanpboejpmjaa.Math
theorem off (s : List S80) (n : Int) (a0 : ByteArray) (a1 : Bool) (a2 a3 : Int) (l : List S76) (l5 : List S45) : Ev (fun k => rushlightlaw25_FrameApart.j0 k s n true a0 a1 a2 a3 l l5) true := by
  refine Ev.step (f := fun k => (rushlightlaw25_awake.f k).bind fun t => some t) (fun k => ?_) (Ev.bind awake25_ev (Ev.now _))
  simp only [rushlightlaw25_FrameApart.j0, if_true]
theorem FrameApart : Say.FrameApart := by
  intro x0 x1 x2 _ _ _
  refine Ev.rounds (g := fun k => rushlightlaw25_FrameApart.f k x0.f0 x0.f1 x0.f2 x0.f3 x0.f4 x0.f5 x1 x2) ?_
  unfold rushlightlaw25_FrameApart.f
  refine Ev.bind (few_ev _ _ _ _ _ _ _) ?_
  by_cases h : fewB x0.f4 x1 = true
  · simp only [if_pos h]
    simp only [fewB, Bool.and_eq_true, decide_eq_true_eq] at h
    obtain ⟨⟨⟨h1, h2⟩, h3⟩, h4⟩ := h
    by_cases hn : x2 < 0
    · simp only [if_pos hn]; exact off _ _ _ _ _ _ _ _
    · simp only [if_neg hn]
      by_cases hn2 : x2 > 600
      · simp only [decide_eq_true hn2]; exact off _ _ _ _ _ _ _ _
      · simp only [decide_eq_false hn2]
        have hlen := saved_length x1
        obtain ⟨p1, p2, p3, p4⟩ := places_at x0.f4 h3 [] 0 (Int.le_refl _) (by simp)
        refine Ev.step (fun k => by simp only [rushlightlaw25_FrameApart.j0]; rw [if_neg (by simp)]) (Ev.bind (lay_ev x0.f0 x0.f1 x0.f2 x0.f3 x2 x0.f5 h1 h2 h3 h4) ?_)
        have hl : (laid x0.f4 x1 x0.f3 x2).2.2.2.2 ≠ 0 ∨ (4 + 4 * ((saved x1).length : Int) + 4 * x2 + (places [] 0 x0.f4).2 ≤ 2000 ∧ laid x0.f4 x1 x0.f3 x2 = (4 + 4 * ((saved x1).length : Int) + 4 * x2 + (places [] 0 x0.f4).2, saved x1, 4 + 4 * ((saved x1).length : Int), (places [] 0 x0.f4).1.map (fun x => 4 + 4 * ((saved x1).length : Int) + 4 * x2 + x), 0)) := by
          unfold laid
          rw [if_neg hn]
          split
          · rw [if_neg (by omega)]
            split
            · left; simp
            · right; exact ⟨by omega, rfl⟩
          · left; simp
        rcases hl with hl | ⟨hl, e⟩
        · simp only [if_neg hl]; exact Ev.bind awake25_ev (Ev.now _)
        · rw [e]
          have hb : ((((places [] 0 x0.f4).1.map (fun x => 4 + 4 * ((saved x1).length : Int) + 4 * x2 + x)).length : Int) != (x0.f4.length : Int)) = false := by
            simp [p1]
          refine Ev.congr (fun k => ?_) (apart_j1 x0.f4 x1 x2 h1 h3 (by omega) (by omega) hl x0.f0 x0.f1 x0.f2 x0.f3 x0.f5)
          simp only [if_true]
          rw [if_neg (by omega), if_neg (by omega), hb]
  · simp only [if_neg h]
    exact off _ _ _ _ _ _ _ _
end Go.Proofs.Ytppanpboejpmjaa.Pure
