/- StoreP: functions of the program walked by hand, and what they come to. -/
import Derived.Test.YtplafnaocgifoaaProg
import Derived.Below
import Derived.Deep.Draws
import Derived.Deep.AppendLies
import Derived.Maps.AppendAt
import Derived.OwnWalk
import Derived.Laws.BytesArg
import Derived.Laws.MakeOwn
import Derived.Laws.OwnMore
import Derived.Deep.OwnRows
import Derived.Tactics
import Derived.Lib.ConvBytes
import Derived.Laws.Slices
import Derived.WalkKit
import Derived.KernelRfl
import Derived.RowKit3
import Derived.Deep.LoopGhost
import Derived.Deep.QuietTactic
import Derived.BigQuiet
import Derived.WideLaws
import Derived.Deep.DeepCutAuto
import Derived.Deep.CutBlock
import Derived.Deep.RegionHeld3
import Derived.Laws.Rows
import Derived.Lib.AppendStr
import Derived.ArgAppend
import Derived.Laws.IdiomCopy
import Derived.OrdersHeld
import Derived.Laws.BitsLemmas
import Derived.RowKit
import Derived.Test.YtplafnaocgifoaaWWords
import Derived.Test.YtplafnaocgifoaaWLast
import Derived.Test.YtplafnaocgifoaaWTab
import Derived.Test.YtplafnaocgifoaaWFour
import Derived.Test.YtplafnaocgifoaaWQPut
import Derived.Test.YtplafnaocgifoaaWApart
import Derived.Test.YtplafnaocgifoaaWArr
import Derived.Test.YtplafnaocgifoaaWZeros
import Derived.Test.YtplafnaocgifoaaWFoot
import Derived.Test.YtplafnaocgifoaaWKept
import Derived.Test.YtplafnaocgifoaaWShare
import Derived.Test.YtplafnaocgifoaaWN
import Derived.Test.YtplafnaocgifoaaWFootNe
import Derived.Test.YtplafnaocgifoaaWAt
import Derived.Test.YtplafnaocgifoaaWEqStruct
import Derived.Test.YtplafnaocgifoaaWRepsOne
import Derived.Test.YtplafnaocgifoaaWInv
import Derived.Test.YtplafnaocgifoaaWInvWords
import Derived.Test.YtplafnaocgifoaaWGuard
import Derived.Test.YtplafnaocgifoaaWNEv
import Derived.Test.YtplafnaocgifoaaWMore
import Derived.Test.YtplafnaocgifoaaSt0
import Derived.Test.YtplafnaocgifoaaStoreI
import Derived.Test.YtplafnaocgifoaaStoreE
import Derived.Laws.BitsAllLaws
import Derived.Outline
set_option linter.all false
namespace Go.Proofs.Ytplafnaocgifoaa.St
open Go.RowKit Go.Proofs.YtplafnaocgifoaaW.PrintWords Go.Proofs.YtplafnaocgifoaaW.PrintLast Go.Proofs.YtplafnaocgifoaaW.PrintMore
set_option linter.unusedVariables false
theorem store_or_add (n a b : Nat) (ha : a < 2 ^ n) (hb : 2 ^ n * b < 4294967296) (hn : 2 ^ n ≤ 4294967296) : bits .or .u32 (a : Int) ((2 ^ n * b : Nat) : Int) = ((2 ^ n * b + a : Nat) : Int) := by
  rw [u32_or_nat a _ (by omega) hb, Nat.or_comm, ← Nat.two_pow_add_eq_or_of_lt ha]
set_option maxHeartbeats 8000000 in
theorem store_ldv_num (x : Int) (h0 : 0 ≤ x) (h1 : x < 4294967296) : store_ldv (fun j : Nat => x / 2 ^ (8 * j) % 256) 4 = x := by
  obtain ⟨X, rfl⟩ := Int.eq_ofNat_of_zero_le h0
  have hX : X < 4294967296 := by omega
  clear h0 h1
  have e0 := store_or_add 0 0 (X % 256) (by decide) (by omega) (by decide)
  have e1 := store_or_add 8 (X % 256) (X / 256 % 256) (by omega) (by omega) (by decide)
  have e2 := store_or_add 16 (X % 65536) (X / 65536 % 256) (by omega) (by omega) (by decide)
  have e3 := store_or_add 24 (X % 16777216) (X / 16777216 % 256) (by omega) (by omega) (by decide)
  have p0 : (2 : Int) ^ (8 * 0) = 1 := rfl
  have p1 : (2 : Int) ^ (8 * (0 + 1)) = 256 := rfl
  have p2 : (2 : Int) ^ (8 * (0 + 1 + 1)) = 65536 := rfl
  have p3 : (2 : Int) ^ (8 * (0 + 1 + 1 + 1)) = 16777216 := rfl
  have n0 : 2 ^ 0 * (X % 256) = X % 256 := by omega
  have n1 : 2 ^ 8 * (X / 256 % 256) = 256 * (X / 256 % 256) := by omega
  have n2 : 2 ^ 16 * (X / 65536 % 256) = 65536 * (X / 65536 % 256) := by omega
  have n3 : 2 ^ 24 * (X / 16777216 % 256) = 16777216 * (X / 16777216 % 256) := by omega
  rw [n0] at e0; rw [n1] at e1; rw [n2] at e2; rw [n3] at e3
  have a0 : ((X : Int) / 1 % 256 % 4294967296 * 1 % 4294967296) = ((X % 256 : Nat) : Int) := by
    rw [show (X : Int) / 1 % 256 = ((X % 256 : Nat) : Int) by omega]
    have hv : X % 256 < 256 := Nat.mod_lt _ (by decide)
    generalize X % 256 = v at hv ⊢
    omega
  have a1 : ((X : Int) / 256 % 256 % 4294967296 * 256 % 4294967296) = ((256 * (X / 256 % 256) : Nat) : Int) := by
    rw [show (X : Int) / 256 % 256 = ((X / 256 % 256 : Nat) : Int) by omega]
    have hv : X / 256 % 256 < 256 := Nat.mod_lt _ (by decide)
    generalize X / 256 % 256 = v at hv ⊢
    omega
  have a2 : ((X : Int) / 65536 % 256 % 4294967296 * 65536 % 4294967296) = ((65536 * (X / 65536 % 256) : Nat) : Int) := by
    rw [show (X : Int) / 65536 % 256 = ((X / 65536 % 256 : Nat) : Int) by omega]
    have hv : X / 65536 % 256 < 256 := Nat.mod_lt _ (by decide)
    generalize X / 65536 % 256 = v at hv ⊢
    omega
  have a3 : ((X : Int) / 16777216 % 256 % 4294967296 * 16777216 % 4294967296) = ((16777216 * (X / 16777216 % 256) : Nat) : Int) := by
    rw [show (X : Int) / 16777216 % 256 = ((X / 16777216 % 256 : Nat) : Int) by omega]
    have hv : X / 16777216 % 256 < 256 := Nat.mod_lt _ (by decide)
    generalize X / 16777216 % 256 = v at hv ⊢
    omega
  have f1 : 256 * (X / 256 % 256) + X % 256 = X % 65536 := by omega
  have f2 : 65536 * (X / 65536 % 256) + X % 65536 = X % 16777216 := by omega
  have f3 : 16777216 * (X / 16777216 % 256) + X % 16777216 = X := by omega
  simp only [store_ldv, p0, p1, p2, p3]
  rw [a0, a1, a2, a3]
  rw [show (0 : Int) = ((0 : Nat) : Int) from rfl, e0, Nat.add_zero, e1, f1, e2, f2, e3, f3]
theorem store_wr_far (D : List Int) (P : Nat) (x : Int) (i k : Nat) (h : k < P ∨ P + i ≤ k) : (store_wr D P x i)[k]? = D[k]? := by
  induction i with
  | zero => rfl
  | succ i ih => rw [store_wr, List.getElem?_set_ne (by omega), ih (by omega)]
theorem store_wr_at (D : List Int) (P : Nat) (x : Int) (i j : Nat) (h : j < i) (hl : P + i ≤ D.length) : (store_wr D P x i)[P + j]? = some (x / 2 ^ (8 * j) % 256) := by
  induction i with
  | zero => omega
  | succ i ih =>
    rw [store_wr]
    by_cases e : j = i
    · subst e
      rw [List.getElem?_set_self (by rw [store_wr_length]; omega)]
    · rw [List.getElem?_set_ne (by omega), ih (by omega) (by omega)]
theorem store_on_far (D : List Bool) (P : Nat) (i k : Nat) (h : k < P ∨ P + i ≤ k) : (store_on D P i)[k]? = D[k]? := by
  induction i with
  | zero => rfl
  | succ i ih => rw [store_on, List.getElem?_set_ne (by omega), ih (by omega)]
theorem store_on_at (D : List Bool) (P : Nat) (i j : Nat) (h : j < i) (hl : P + i ≤ D.length) : (store_on D P i)[P + j]? = some true := by
  induction i with
  | zero => omega
  | succ i ih =>
    rw [store_on]
    by_cases e : j = i
    · subst e
      rw [List.getElem?_set_self (by rw [store_on_length]; omega)]
    · rw [List.getElem?_set_ne (by omega), ih (by omega) (by omega)]
def store_put (g : Int → S24) (P : Int) (q : S24) (is : Bool) : Int → S24 := if is then store_with (store_gone g (P - 3) (P + 4)) P q else store_gone g (P - 3) (P + 4)
theorem store_Put_any (w0 w : World) (sb lb cap db tb n m P : Nat) (mp : Option Nat) (g : Int → S24) (data : List Int) (set : List Bool) (h : store_Ob w0 w sb lb cap db tb n mp m g data set) (p1 p2 : Int) (x : Int) (q : S24) (is : Bool)
    (h1 : p1 ≤ (P : Int)) (h3 : (P : Int) + 4 ≤ p2) (h4 : (P : Int) + 4 ≤ n) (h5 : p2 ≤ 1000000) (h6 : n ≤ 1000000) (hx : 0 ≤ x ∧ x < 4294967296) (hm : m ≤ 1000) :
    Calls Try.prog 10 #[.pointer (some ⟨sb, 0, none⟩), .agg #[.int .i64 1, .int .i64 p1, .int .i64 p2, .int .i64 P], .int .i64 4, .agg #[.int .u32 x, .int .i64 q.f0, .int .i64 q.f1, .int .i64 q.f2, .int .i64 q.f3, .bool is]] w fun e w' => e = .returned (.int .i64 0) ∧ ∃ mp' m', (is = true → ∃ b, mp' = some b) ∧ ((∃ b, mp = some b) → ∃ b, mp' = some b) ∧ m' ≤ m + 1 ∧ store_Ob w0 w' sb lb cap db tb n mp' m' (store_put g P q is) (store_wr data P (if is then 0 else x) 4) (store_on set P 4) ∧ store_Kept w w' ∧ w.heap.size ≤ w'.heap.size := by
  cases is
  · refine (store_Put_num w0 w sb lb cap db tb n m P mp g data set h p1 p2 x q h1 h3 h4 h5 h6 hx).mono ?_
    rintro e w' ⟨rfl, hO, hK, hZ⟩
    exact ⟨rfl, mp, m, (fun h => by cases h), id, by omega, hO, hK, hZ⟩
  · refine (store_Put_ptr w0 w sb lb cap db tb n m P mp g data set h p1 p2 x q h1 h3 h4 h5 h6 hm).mono ?_
    rintro e w' ⟨rfl, b, hO, hK, hZ⟩
    exact ⟨rfl, some b, m + 1, (fun _ => ⟨b, rfl⟩), (fun _ => ⟨b, rfl⟩), by omega, hO, hK, hZ⟩
def store_bn (is : Bool) (x : Int) : Int := if is then 0 else x
def store_bp (is : Bool) (a : Int) : Int := if is then a else 0
theorem store_Load_any (w0 w : World) (sb lb cap db tb n m P : Nat) (mp : Option Nat) (g : Int → S24) (data : List Int) (set : List Bool) (h : store_Ob w0 w sb lb cap db tb n mp m g data set) (p1 p2 : Int) (x : Int) (q : S24) (is : Bool)
    (h1 : p1 ≤ (P : Int)) (h3 : (P : Int) + 4 ≤ p2) (h4 : (P : Int) + 4 ≤ n) (h5 : p2 ≤ 1000000) (h6 : n ≤ 1000000) (hx : 0 ≤ x ∧ x < 4294967296)
    (hmp : is = true → ∃ b, mp = some b) (hg : is = true → g P = q) (hbd : ∀ j, j < 4 → data[P + j]? = some ((if is then 0 else x) / 2 ^ (8 * j) % 256)) (hbs : ∀ j, j < 4 → set[P + j]? = some true) :
    Calls Try.prog 11 #[.pointer (some ⟨sb, 0, none⟩), .agg #[.int .i64 1, .int .i64 p1, .int .i64 p2, .int .i64 P], .int .i64 4, .bool is] w fun e w' => e = .returned (.tuple #[.agg #[.int .u32 (store_bn is x), .int .i64 (store_bp is q.f0), .int .i64 (store_bp is q.f1), .int .i64 (store_bp is q.f2), .int .i64 (store_bp is q.f3), .bool is], .int .i64 0]) ∧ Below w.heap.size w w' := by
  cases is
  · refine (store_Load_num_ob w0 w sb lb cap db tb n m P mp g data set h p1 p2 (fun j : Nat => x / 2 ^ (8 * j) % 256) h1 h3 h4 h5 h6 (fun j hj => (hbd j hj).trans (by simp)) hbs).mono ?_
    rintro e w' ⟨rfl, hb⟩
    rw [store_ldv_num x hx.1 hx.2]
    exact ⟨rfl, hb⟩
  · obtain ⟨b, rfl⟩ := hmp rfl
    refine (store_Load_ptr w0 w sb lb cap db tb n m P b g data set p1 p2 h h1 h3 h4 h5 h6 hbs).mono ?_
    rintro e w' ⟨rfl, hb⟩
    rw [hg rfl]
    exact ⟨rfl, hb⟩
theorem store_put_same (g : Int → S24) (P : Int) (q : S24) : store_put g P q true P = q := by
  unfold store_put store_with; simp
theorem store_put_other (g : Int → S24) (P : Int) (q q' : S24) (is : Bool) : store_put (store_put g P q true) (P + 4) q' is P = q := by
  have h : store_gone (store_put g P q true) (P + 4 - 3) (P + 4 + 4) P = q := by
    unfold store_gone; rw [if_neg (by omega)]; exact store_put_same g P q
  cases is
  · exact h
  · show store_with _ (P + 4) q' P = q
    unfold store_with; rw [if_neg (by omega)]; exact h
end Go.Proofs.Ytplafnaocgifoaa.St
