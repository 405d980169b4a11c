/- The program's AllCuts and the reference's return the same for every number of corners and of diagonals: both go on in order with each diagonal that crosses none before it. No condition. -/
import Derived.Test.YtnikefebkcminaaPFnExactAllCutsx0
import Derived.Test.YtnikefebkcminaaPFnExactAllCutsx1
import Derived.Test.YtnikefebkcminaaPFnExactAllCutsx2
import Derived.Test.YtnikefebkcminaaPFnExactAllCutsx3
import Derived.Test.YtnikefebkcminaaPFnExactAllCutsx4
import Derived.Test.YtnikefebkcminaaPFnExactAllCutsx5
import Derived.Test.YtnikefebkcminaaPFnExactAllCutsx6
set_option linter.unusedSimpArgs false
set_option linter.unnecessarySimpa false
set_option linter.unusedVariables false
namespace Go.Proofs.Ytnikefebkcminaa.PureFnExactAllCuts
open Go.RowKit Go.Proofs.Ytnikefebkcminaa.PFnExactAllCuts Go.Proofs.YtnikefebkcminaaW.PrintWords Go.Proofs.YtnikefebkcminaaW.PrintLast

theorem Ev.at1 {α : Type} {g : Nat → Option α} {r : α} (h : Ev g r) : ∃ K, ∀ j, g (K + j) = some r := by
 obtain ⟨K, h⟩ := h
 exact ⟨K, fun j => h _ (by omega)⟩
theorem Ev.at2 {α β : Type} {g : Nat → Option α} {r : α} {g2 : Nat → Option β} {r2 : β} (h : Ev g r) (h2 : Ev g2 r2) : ∃ K, (∀ j, g (K + j) = some r) ∧ ∀ j, g2 (K + j) = some r2 := by
 obtain ⟨K, h⟩ := h
 obtain ⟨K2, h2⟩ := h2
 exact ⟨K + K2, fun j => h _ (by omega), fun j => h2 _ (by omega)⟩
theorem Ev.at3 {α β γ : Type} {g : Nat → Option α} {r : α} {g2 : Nat → Option β} {r2 : β} {g3 : Nat → Option γ} {r3 : γ} (h : Ev g r) (h2 : Ev g2 r2) (h3 : Ev g3 r3) :
  ∃ K, (∀ j, g (K + j) = some r) ∧ (∀ j, g2 (K + j) = some r2) ∧ ∀ j, g3 (K + j) = some r3 := by
 obtain ⟨K, h⟩ := h
 obtain ⟨K2, h2⟩ := h2
 obtain ⟨K3, h3⟩ := h3
 exact ⟨K + K2 + K3, fun j => h _ (by omega), fun j => h2 _ (by omega), fun j => h3 _ (by omega)⟩
theorem Ev.at4 {α β γ δ : Type} {g : Nat → Option α} {r : α} {g2 : Nat → Option β} {r2 : β} {g3 : Nat → Option γ} {r3 : γ} {g4 : Nat → Option δ} {r4 : δ} (h : Ev g r) (h2 : Ev g2 r2) (h3 : Ev g3 r3) (h4 : Ev g4 r4) :
  ∃ K, (∀ j, g (K + j) = some r) ∧ (∀ j, g2 (K + j) = some r2) ∧ (∀ j, g3 (K + j) = some r3) ∧ ∀ j, g4 (K + j) = some r4 := by
 obtain ⟨K, e1, e2, e3⟩ := Ev.at3 h h2 h3
 obtain ⟨K4, h4⟩ := h4
 exact ⟨K + K4, fun j => by rw [Nat.add_assoc]; exact e1 _, fun j => by rw [Nat.add_assoc]; exact e2 _, fun j => by rw [Nat.add_assoc]; exact e3 _, fun j => h4 _ (by omega)⟩
theorem Ev.all {α β : Type} {g : α → Nat → Option β} {r : α → β} (l : List α) (h : ∀ x, x ∈ l → Ev (g x) (r x)) : ∃ K, ∀ x, x ∈ l → ∀ k, K ≤ k → g x k = some (r x) := by
 induction l with
 | nil => exact ⟨0, fun x hx => by cases hx⟩
 | cons y l ih =>
  obtain ⟨K, hK⟩ := ih (fun x hx => h x (List.mem_cons_of_mem _ hx))
  obtain ⟨K2, hK2⟩ := h y (List.mem_cons_self ..)
  refine ⟨K + K2, fun x hx k hk => ?_⟩
  rcases List.mem_cons.1 hx with e | e
  ·subst e
   exact hK2 k (by omega)
  ·exact hK x e k (by omega)

theorem take_set_succ {α : Type} (l : List α) (i : Nat) (v : α) (h : i < l.length) : (l.set i v).take (i + 1) = l.take i ++ [v] := by
 rw [List.take_succ_eq_append_getElem (by rw [List.length_set]; exact h), List.getElem_set_self, List.take_set_of_le (Nat.le_refl i)]
theorem getD_drop {α : Type} (l : List α) (d : α) (i : Nat) (h : i < l.length) : l.drop i = l.getD i d :: l.drop (i + 1) := by
 rw [List.drop_eq_getElem_cons h, List.getD_eq_getElem?_getD, List.getElem?_eq_getElem h]
 rfl
theorem wrap_succ (i : Nat) (h : i < 4611686018427387904) : wrap64 ((i : Int) + 1) = ((i + 1 : Nat) : Int) := by unfold wrap64; omega
theorem wrap_pred (i : Nat) (h0 : 0 < i) (h : i < 4611686018427387904) : wrap64 ((i : Int) - 1) = ((i - 1 : Nat) : Int) := by unfold wrap64; omega

theorem l1In_tells (a b c : Int) : spec_l1In.f a b c = some (decide (b ≤ a ∧ a ≤ c)) := by
 unfold spec_l1In.f
 by_cases h : a ≥ b
 ·rw [if_pos h]
  have : b ≤ a := h
  simp [this]
 ·rw [if_neg h]
  have : ¬ b ≤ a := h
  simp [this]

theorem within_tells (a b c : Int) : impl_within.f a b c = some (decide (b ≤ a ∧ a ≤ c)) := by
 unfold impl_within.f
 by_cases h : a ≥ b
 ·rw [if_pos h]
  have : b ≤ a := h
  simp [this]
 ·rw [if_neg h]
  have : ¬ b ≤ a := h
  simp [this]

abbrev DG := S72
abbrev rD (l : List DG) (j : Nat) : DG := rd_T72 l (j : Int)
def crossB (a b c d : Int) : Bool := decide (a < c ∧ c < b ∧ b < d) || decide (c < a ∧ a < d ∧ d < b)
def diagB (n a b : Int) : Bool := decide (0 ≤ a ∧ b ≤ n - 1 ∧ b - a ≥ 2 ∧ b - a ≤ n - 2)
def lessB (a b c d : Int) : Bool := decide (a < c ∨ (a = c ∧ b < d))
def stepD (n : Int) (l : List DG) (j : Nat) : Bool :=
 diagB n (rD l j).f0 (rD l j).f1 && ((j == 0 || lessB (rD l (j - 1)).f0 (rD l (j - 1)).f1 (rD l j).f0 (rD l j).f1) && !(l.take j).any fun e => crossB (rD l j).f0 (rD l j).f1 e.f0 e.f1)
theorem stepD_def (n : Int) (l : List DG) (j : Nat) : stepD n l j = (diagB n (rD l j).f0 (rD l j).f1 && ((j == 0 || lessB (rD l (j - 1)).f0 (rD l (j - 1)).f1 (rD l j).f0 (rD l j).f1) && !(l.take j).any fun e => crossB (rD l j).f0 (rD l j).f1 e.f0 e.f1)) := rfl
def goodD (n : Int) (l : List DG) : Bool := (List.range' 0 l.length).all (stepD n l)

theorem rD_drop (l : List DG) (i : Nat) (h : i < l.length) : l.drop i = rD l i :: l.drop (i + 1) := by
 rw [getD_drop l z72 i h]
 unfold rD rd_T72
 rw [Int.toNat_natCast]
theorem any_take_step (p : DG → Bool) (l : List DG) (i : Nat) (h : i < l.length) : (l.drop i).any p = (p (rD l i) || (l.drop (i + 1)).any p) := by
 rw [rD_drop l i h, List.any_cons]

theorem isDiagonal_tells (n a b : Int) (h : 3 ≤ n ∧ n ≤ 12) : impl_isDiagonal.f n a b = some (diagB n a b) := by
 unfold impl_isDiagonal.f diagB
 rw [within_tells, within_tells]
 have w : wrap64 (n - 1) = n - 1 := by unfold wrap64; omega
 simp only [Option.bind_some, w, decide_eq_true_eq]
 by_cases h0 : 0 ≤ a ∧ a ≤ n - 1
 ·by_cases h1 : 0 ≤ b ∧ b ≤ n - 1
  ·have w3 : wrap64 (b - a) = b - a := by unfold wrap64; omega
   rw [if_pos h0, if_pos h1, w3]
   repeat' split
   all_goals congr 1; rw [Bool.eq_iff_iff]; simp only [decide_eq_true_eq, Bool.false_eq_true, false_iff, Bool.not_eq_true', beq_eq_false_iff_ne, ne_eq, Bool.not_false, true_iff]; omega
  ·rw [if_pos h0, if_neg h1]
   congr 1; rw [Bool.eq_iff_iff]; simp only [decide_eq_true_eq, Bool.false_eq_true, false_iff]; omega
 ·rw [if_neg h0]
  congr 1; rw [Bool.eq_iff_iff]; simp only [decide_eq_true_eq, Bool.false_eq_true, false_iff]; omega

def A1 (n : Int) (a : Nat) (b e : Nat) : List DG := ((List.range' b e).filter fun (b : Nat) => diagB n a b).map fun (b : Nat) => ⟨(a : Int), (b : Int)⟩
def A0 (n : Int) (N : Nat) (a e : Nat) : List DG := (List.range' a e).flatMap fun (a : Nat) => A1 n a (a + 1) (N - (a + 1))
theorem A1_len (n : Int) (a b e : Nat) : (A1 n a b e).length ≤ e := by
 unfold A1
 rw [List.length_map]
 exact Nat.le_trans (List.length_filter_le ..) (by rw [List.length_range']; exact Nat.le_refl _)
theorem all_l1 (n : Int) (N : Nat) (hN : (N : Int) = n) (hn : 3 ≤ n ∧ n ≤ 12) (a : Nat) (r : Option (List DG)) (e : Nat) :
  ∀ (b : Nat) (acc : List DG) (K : Nat), b + e = N → acc.length + e ≤ 4000 → (∀ q, K ≤ q → impl_allDiagonals.l0 q n (acc ++ A1 n a b e) n (wrap64 ((a : Int) + 1)) = r) →
  ∀ q, K + e < q → impl_allDiagonals.l1 q n acc (a : Int) (b : Int) n (a : Int) = r := by
 induction e with
 | zero =>
  intro b acc K he hacc h q hq
  obtain ⟨q, rfl⟩ : ∃ z, q = z + 1 := ⟨q - 1, by omega⟩
  simp only [impl_allDiagonals.l1]
  rw [if_neg (by omega)]
  have := h q (by omega)
  simpa [A1] using this
 | succ e ih =>
  intro b acc K he hacc h q hq
  obtain ⟨q, rfl⟩ : ∃ z, q = z + 1 := ⟨q - 1, by omega⟩
  have hlt : acc.length < 8796093022208 := by omega
  have hA : A1 n a b (e + 1) = (if diagB n a b = true then [(⟨(a : Int), (b : Int)⟩ : DG)] else []) ++ A1 n a (b + 1) e := by
   unfold A1
   rw [List.range'_succ, List.filter_cons]
   split <;> rfl
  simp only [impl_allDiagonals.l1]
  rw [if_pos (by omega), isDiagonal_tells n _ _ hn, Option.bind_some, wrap_succ b (by omega)]
  cases hd : diagB n a b with
  | false =>
   rw [if_neg (by simp)]
   refine ih (b + 1) acc K (by omega) (by omega) ?_ q (by omega)
   intro q' hq'
   have := h q' hq'
   rw [hA, hd, if_neg (by simp), List.nil_append] at this
   exact this
  | true =>
   rw [if_pos rfl, if_pos hlt]
   refine ih (b + 1) _ K (by omega) (by rw [List.length_append, List.length_singleton]; omega) ?_ q (by omega)
   intro q' hq'
   have := h q' hq'
   rw [hA, hd] at this
   simpa using this
theorem all_l0 (n : Int) (N : Nat) (hN : (N : Int) = n) (hn : 3 ≤ n ∧ n ≤ 12) (e : Nat) :
  ∀ (a : Nat) (acc : List DG), a + e = N → acc.length + 12 * e ≤ 3000 → ∀ q, 20 * e < q → impl_allDiagonals.l0 q n acc n (a : Int) = some (acc ++ A0 n N a e) := by
 induction e with
 | zero =>
  intro a acc he hacc q hq
  obtain ⟨q, rfl⟩ : ∃ z, q = z + 1 := ⟨q - 1, by omega⟩
  simp only [impl_allDiagonals.l0]
  rw [if_neg (by omega)]
  have e0 : A0 n N a 0 = [] := rfl
  rw [e0, List.append_nil]
 | succ e ih =>
  intro a acc he hacc q hq
  obtain ⟨q, rfl⟩ : ∃ z, q = z + 1 := ⟨q - 1, by omega⟩
  have hA : A0 n N a (e + 1) = A1 n a (a + 1) (N - (a + 1)) ++ A0 n N (a + 1) e := by
   unfold A0
   rw [List.range'_succ, List.flatMap_cons]
  have hlen := A1_len n a (a + 1) (N - (a + 1))
  rw [hA, ← List.append_assoc]
  simp only [impl_allDiagonals.l0]
  rw [if_pos (by omega), wrap_succ a (by omega)]
  refine all_l1 n N hN hn a _ (N - (a + 1)) (a + 1) acc (20 * e + 1) (by omega) (by omega) ?_ q (by omega)
  intro q' hq'
  rw [wrap_succ a (by omega)]
  exact ih (a + 1) _ (by omega) (by rw [List.length_append]; omega) q' (by omega)
theorem allDiagonals_tells (n : Int) (hn : 3 ≤ n ∧ n ≤ 12) (k : Nat) (hk : 300 < k) : impl_allDiagonals.f k n = some (A0 n n.toNat 0 n.toNat) := by
 have h := all_l0 n n.toNat (by omega) hn n.toNat 0 [] (by omega) (by simp; omega) k (by omega)
 rw [show ((0 : Nat) : Int) = 0 from rfl, List.nil_append] at h
 exact h

def iota72 : Int → Nat → List S72
 | _, 0 => []
 | v, m + 1 => ⟨v, v + 1⟩ :: iota72 (v + 2) m
theorem iota72_len : ∀ (m : Nat) (v : Int), (iota72 v m).length = m
 | 0, _ => rfl
 | m + 1, v => by rw [iota72, List.length_cons, iota72_len m]
theorem mark72_rounds (l : List S72) (hl : l.length ≤ 1048576) (e : Nat) : ∀ (i k : Nat) (P R : List S72) (v0 v : Int), P.length = i → R.length = e → i + e = l.length → 0 ≤ v0 → v0 ≤ 100000000 → v = v0 + 2 * (i : Int) → e < k →
  laws_markDiagonalS.l0 k (P ++ R) v (i : Int) = some (v0 + 2 * (l.length : Int), P ++ iota72 v e) := by
 induction e with
 | zero =>
  intro i k P R v0 v hP hR hi h00 h01 hv hk
  obtain ⟨k, rfl⟩ : ∃ q, k = q + 1 := ⟨k - 1, by omega⟩
  have : R = [] := List.length_eq_zero_iff.1 hR
  subst this
  simp only [laws_markDiagonalS.l0, List.append_nil, iota72]
  rw [if_neg (by omega), hv, show i = l.length by omega]
 | succ e ih =>
  intro i k P R v0 v hP hR hi h00 h01 hv hk
  obtain ⟨k, rfl⟩ : ∃ q, k = q + 1 := ⟨k - 1, by omega⟩
  cases R with
  | nil => simp at hR
  | cons x R =>
   rw [List.length_cons] at hR
   have w1 : wrap64 (v + 1) = v + 1 := by unfold wrap64; omega
   have w2 : wrap64 (v + 1 + 1) = v + 2 := by unfold wrap64; omega
   have s1 : ∀ y z : S72, (P ++ y :: R).set i z = P ++ z :: R := by
    intro y z
    rw [List.set_append_right _ _ (by omega), hP, Nat.sub_self]
    rfl
   have r1 : ∀ y : S72, rd_T72 (P ++ y :: R) (i : Int) = y := by
    intro y
    unfold rd_T72
    rw [Int.toNat_natCast, List.getD_eq_getElem?_getD, ← hP]
    simp
   simp only [laws_markDiagonalS.l0, Int.toNat_natCast, Option.bind_some, s1, r1, w1, w2]
   rw [if_pos (by rw [List.length_append, List.length_cons]; omega), if_pos (by omega), wrap_succ i (by omega)]
   have h := ih (i + 1) k (P ++ [⟨v, v + 1⟩]) R v0 (v + 2) (by rw [List.length_append, List.length_singleton]; omega) (by omega) (by omega) h00 h01 (by omega) (by omega)
   rw [iota72]
   simpa using h
theorem mark72_any (l : List S72) (hl : l.length ≤ 1048576) (v : Int) (h0 : 0 ≤ v) (h1 : v ≤ 100000000) (k : Nat) (hk : l.length < k) : laws_markDiagonalS.f k l v = some (v + 2 * (l.length : Int), iota72 v l.length) := by
 have h := mark72_rounds l hl l.length 0 k [] l v v rfl rfl (by omega) h0 h1 (by omega) hk
 unfold laws_markDiagonalS.f
 simpa using h
theorem mark72_tells (l : List S72) (hl : l.length ≤ 1048576) (k : Nat) (hk : l.length < k) : laws_markDiagonalS.f k l 1 = some (1 + 2 * (l.length : Int), iota72 1 l.length) :=
 mark72_any l hl 1 (by omega) (by omega) k hk

theorem eqO72_rounds (l : List S72) (hl : l.length ≤ 4611686018427387904) (d : Nat) : ∀ (i k : Nat), i + d = l.length → d < k → laws_eqDiagonalS.l0 k l l (i : Int) = some true := by
 induction d with
 | zero =>
  intro i k hi hk
  obtain ⟨k, rfl⟩ : ∃ m, k = m + 1 := ⟨k - 1, by omega⟩
  simp only [laws_eqDiagonalS.l0]
  rw [if_neg (by omega)]
 | succ d ih =>
  intro i k hi hk
  obtain ⟨k, rfl⟩ : ∃ m, k = m + 1 := ⟨k - 1, by omega⟩
  simp only [laws_eqDiagonalS.l0, laws_eqDiagonal.f, if_true, Option.bind_some]
  rw [if_pos (by omega), if_pos (by omega), if_pos (by omega), wrap_succ i (by omega)]
  exact ih (i + 1) k (by omega) (by omega)
theorem eqO72_tells (l : List S72) (hl : l.length ≤ 1048576) (k : Nat) (hk : l.length < k) : laws_eqDiagonalS.f k l l = some true := by
 unfold laws_eqDiagonalS.f
 rw [if_pos rfl]
 exact eqO72_rounds l (by omega) l.length 0 k (by omega) (by omega)

theorem bind_of {α β : Type} {o : Option α} {f : α → Option β} {v : α} (h : o = some v) : o.bind f = f v := by rw [h]; rfl
theorem getD_mem' (l : List (List S72)) (i : Nat) (h : i < l.length) : l.getD i [] ∈ l := by
 rw [List.getD_eq_getElem?_getD, List.getElem?_eq_getElem h]
 exact List.getElem_mem h
theorem eqSS_rounds (l : List (List S72)) (hl : l.length ≤ 300000) (hb : ∀ x ∈ l, x.length ≤ 100) (d : Nat) : ∀ (i k : Nat), i + d = l.length → d + 200 < k → laws_eqDiagonalSS.l0 k l l (i : Int) = some true := by
 induction d with
 | zero =>
  intro i k hi hk
  obtain ⟨k, rfl⟩ : ∃ m, k = m + 1 := ⟨k - 1, by omega⟩
  simp only [laws_eqDiagonalSS.l0]
  rw [if_neg (by omega)]
 | succ d ih =>
  intro i k hi hk
  obtain ⟨k, rfl⟩ : ∃ m, k = m + 1 := ⟨k - 1, by omega⟩
  have hx := hb _ (getD_mem' l i (by omega))
  have h1 : laws_eqDiagonalS.f k (l.getD i []) (l.getD i []) = some true := by
   unfold laws_eqDiagonalS.f
   rw [if_pos rfl]
   exact eqO72_rounds _ (by omega) _ 0 k (Nat.zero_add _) (by omega)
  simp only [laws_eqDiagonalSS.l0]
  rw [if_pos (by omega), if_pos (by omega), if_pos (by omega), wrap_succ i (by omega)]
  refine (bind_of h1).trans ?_
  rw [if_pos rfl]
  exact ih (i + 1) k (by omega) (by omega)
theorem eqSS_tells (l : List (List S72)) (hl : l.length ≤ 300000) (hb : ∀ x ∈ l, x.length ≤ 100) (k : Nat) (hk : l.length + 200 < k) : laws_eqDiagonalSS.f k l l = some true := by
 unfold laws_eqDiagonalSS.f
 rw [if_pos rfl]
 exact eqSS_rounds l hl hb l.length 0 k (Nat.zero_add _) hk
def sumL : List Nat → Int
 | [] => 0
 | m :: ms => 2 * (m : Int) + sumL ms
def iotaSS : Int → List Nat → List (List S72)
 | _, [] => []
 | v, m :: ms => iota72 v m :: iotaSS (v + 2 * (m : Int)) ms
theorem sumL_ge : ∀ ms : List Nat, 0 ≤ sumL ms
 | [] => Int.le_refl _
 | m :: ms => by
  have := sumL_ge ms
  unfold sumL
  omega
theorem iotaSS_len : ∀ (ms : List Nat) (v : Int), (iotaSS v ms).length = ms.length
 | [], _ => rfl
 | m :: ms, v => by rw [iotaSS, List.length_cons, List.length_cons, iotaSS_len ms]
theorem markSS_rounds (L : Nat) (hL : L ≤ 300000) (R : List (List S72)) : ∀ (k : Nat) (P : List (List S72)) (v : Int), (∀ x ∈ R, x.length ≤ 100) → P.length + R.length = L → 0 ≤ v → v + 200 * (R.length : Int) ≤ 80000000 → R.length + 200 < k →
  laws_markDiagonalSS.l0 k (P ++ R) v (P.length : Int) = some (v + sumL (R.map List.length), P ++ iotaSS v (R.map List.length)) := by
 induction R with
 | nil =>
  intro k P v hb hP h0 h1 hk
  obtain ⟨k, rfl⟩ : ∃ q, k = q + 1 := ⟨k - 1, by omega⟩
  simp only [laws_markDiagonalSS.l0, List.append_nil, List.map_nil, iotaSS, sumL]
  rw [if_neg (by omega), Int.add_zero]
 | cons x R ih =>
  intro k P v hb hP h0 h1 hk
  obtain ⟨k, rfl⟩ : ∃ q, k = q + 1 := ⟨k - 1, by omega⟩
  rw [List.length_cons] at hP h1 hk
  have hx := hb x (by simp)
  have g1 : (P ++ x :: R).getD P.length [] = x := by
   rw [List.getD_eq_getElem?_getD]
   simp
  have s1 : ∀ z, (P ++ x :: R).set P.length z = P ++ z :: R := by
   intro z
   rw [List.set_append_right _ _ (Nat.le_refl _), Nat.sub_self]
   rfl
  have hm := mark72_any x (by omega) v h0 (by omega) k (by omega)
  have h := ih k (P ++ [iota72 v x.length]) (v + 2 * (x.length : Int)) (fun y hy => hb y (by simp [hy])) (by rw [List.length_append, List.length_singleton]; omega) (by omega) (by omega) (by omega)
  rw [List.length_append, List.length_singleton, List.append_assoc, List.append_assoc] at h
  simp only [laws_markDiagonalSS.l0]
  rw [if_pos (by rw [List.length_append, List.length_cons]; omega), if_pos (by omega), Int.toNat_natCast, g1]
  refine (bind_of hm).trans ?_
  simp only [s1]
  rw [wrap_succ P.length (by omega)]
  simp only [List.map_cons, iotaSS, sumL]
  rw [← Int.add_assoc]
  exact h
theorem markSS_tells (l : List (List S72)) (hl : l.length ≤ 300000) (hb : ∀ x ∈ l, x.length ≤ 100) (k : Nat) (hk : l.length + 200 < k) : laws_markDiagonalSS.f k l 1 = some (1 + sumL (l.map List.length), iotaSS 1 (l.map List.length)) :=
 markSS_rounds l.length hl l k [] 1 hb (by simp) (by omega) (by omega) hk
theorem heldV_rounds (L : Nat) (hl : L ≤ 100) (v0 : Int) (h0 : 0 ≤ v0) (h1 : v0 ≤ 100000000) (e : Nat) : ∀ (i k : Nat) (P : List S72) (v : Int), P.length = i → i + e = L → v = v0 + 2 * (i : Int) → e < k →
  laws_heldDiagonalS.l0 k (P ++ iota72 v e) v (i : Int) = some (v0 + 2 * (L : Int)) := by
 induction e with
 | zero =>
  intro i k P v hP hi hv hk
  obtain ⟨k, rfl⟩ : ∃ q, k = q + 1 := ⟨k - 1, by omega⟩
  simp only [laws_heldDiagonalS.l0, iota72, List.append_nil]
  rw [if_neg (by omega), hv, show i = L by omega]
 | succ e ih =>
  intro i k P v hP hi hv hk
  obtain ⟨k, rfl⟩ : ∃ q, k = q + 1 := ⟨k - 1, by omega⟩
  have w1 : wrap64 (v + 1) = v + 1 := by unfold wrap64; omega
  have w2 : wrap64 (v + 1 + 1) = v + 2 := by unfold wrap64; omega
  have r1 : rd_T72 (P ++ iota72 v (e + 1)) (i : Int) = ⟨v, v + 1⟩ := by
   unfold rd_T72
   rw [Int.toNat_natCast, List.getD_eq_getElem?_getD, ← hP, iota72]
   simp
  simp only [laws_heldDiagonalS.l0, r1, w1, w2, if_true]
  rw [if_pos (by rw [List.length_append, iota72_len]; omega), if_pos (by omega), wrap_succ i (by omega)]
  have h := ih (i + 1) k (P ++ [⟨v, v + 1⟩]) (v + 2) (by rw [List.length_append, List.length_singleton]; omega) (by omega) (by omega) (by omega)
  rw [iota72]
  simpa using h
theorem heldSS_rounds (L : Nat) (hL : L ≤ 300000) (ms : List Nat) : ∀ (k : Nat) (P : List (List S72)) (v : Int), (∀ x ∈ ms, x ≤ 100) → P.length + ms.length = L → 0 ≤ v → v + 200 * (ms.length : Int) ≤ 80000000 → ms.length + 200 < k →
  laws_heldDiagonalSS.l0 k (P ++ iotaSS v ms) v (P.length : Int) = some (v + sumL ms) := by
 induction ms with
 | nil =>
  intro k P v hb hP h0 h1 hk
  obtain ⟨k, rfl⟩ : ∃ q, k = q + 1 := ⟨k - 1, by omega⟩
  simp only [laws_heldDiagonalSS.l0, List.append_nil, iotaSS, sumL]
  rw [if_neg (by omega), Int.add_zero]
 | cons m ms ih =>
  intro k P v hb hP h0 h1 hk
  obtain ⟨k, rfl⟩ : ∃ q, k = q + 1 := ⟨k - 1, by omega⟩
  rw [List.length_cons] at hP h1 hk
  have hx := hb m (by simp)
  have g1 : (P ++ iota72 v m :: iotaSS (v + 2 * (m : Int)) ms).getD P.length [] = iota72 v m := by
   rw [List.getD_eq_getElem?_getD]
   simp
  have hm : laws_heldDiagonalS.f k ((P ++ iota72 v m :: iotaSS (v + 2 * (m : Int)) ms).getD P.length []) v = some (v + 2 * (m : Int)) := by
   rw [g1]
   exact heldV_rounds m hx v h0 (by omega) m 0 k [] v rfl (by omega) (by omega) (by omega)
  have h := ih k (P ++ [iota72 v m]) (v + 2 * (m : Int)) (fun y hy => hb y (by simp [hy])) (by rw [List.length_append, List.length_singleton]; omega) (by omega) (by omega) (by omega)
  rw [List.length_append, List.length_singleton, List.append_assoc] at h
  have c1 : (P.length : Int) < ((P ++ iota72 v m :: iotaSS (v + 2 * (m : Int)) ms).length : Int) := by rw [List.length_append, List.length_cons]; omega
  have c2 : 0 ≤ (P.length : Int) := by omega
  rw [show iotaSS v (m :: ms) = iota72 v m :: iotaSS (v + 2 * (m : Int)) ms from rfl]
  simp only [laws_heldDiagonalSS.l0]
  rw [if_pos c1, if_pos c2]
  refine (bind_of hm).trans ?_
  rw [if_neg (by omega), wrap_succ P.length (by omega)]
  simp only [sumL]
  rw [← Int.add_assoc]
  exact h
theorem heldSS_tells (l : List (List S72)) (hl : l.length ≤ 300000) (hb : ∀ x ∈ l, x.length ≤ 100) (k : Nat) (hk : l.length + 200 < k) : laws_heldDiagonalSS.f k (iotaSS 1 (l.map List.length)) 1 = some (1 + sumL (l.map List.length)) := by
 have h := heldSS_rounds l.length hl (l.map List.length) k [] 1 (fun x hx => by obtain ⟨y, hy, rfl⟩ := List.mem_map.1 hx; exact hb y hy) (by simp) (by omega) (by rw [List.length_map]; omega) (by rw [List.length_map]; omega)
 exact h

theorem lookL_mem (m : Int) : ∀ (r b : List DG), ∀ x ∈ lookL m r b, (x.length : Int) = m
 | [], _ => fun x hx => by cases hx
 | d :: r, b => fun x hx => by
  rw [lookL_cons] at hx
  rcases List.mem_append.1 hx with h | h
  ·split at h
   ·cases h
   ·unfold lookT at h
    split at h
    ·rw [List.mem_singleton.1 h]
     assumption
    ·exact lookL_mem m r _ x h
  ·exact lookL_mem m r b x h
theorem cuts_len (n m : Int) : ∀ x ∈ cutsOf n m, (x.length : Int) = m := by
 intro x hx
 unfold cutsOf lookT at hx
 split at hx
 ·rename_i h
  rw [List.mem_singleton.1 hx]
  exact h
 ·exact lookL_mem _ _ _ x hx
theorem cuts_few (n m : Int) (hn : 3 ≤ n ∧ n ≤ 8) (hm : 0 ≤ m ∧ m ≤ n - 3) : (cutsOf n m).length ≤ 300000 := by
 by_cases h8 : n = 8
 ·subst h8
  have h2 : m = 0 ∨ m = 1 ∨ m = 2 ∨ m = 3 ∨ m = 4 ∨ m = 5 := by omega
  rcases h2 with rfl | rfl | rfl | rfl | rfl | rfl <;> exact Nat.le_of_ble_eq_true (by kernel_rfl)
 ·have h1 : (diagsOf n).length ≤ 14 := by
   have : n = 3 ∨ n = 4 ∨ n = 5 ∨ n = 6 ∨ n = 7 := by omega
   rcases this with rfl | rfl | rfl | rfl | rfl <;> decide
  have h2 := lookL_le m (diagsOf n) []
  have h3 : 2 ^ (diagsOf n).length ≤ 2 ^ 14 := Nat.pow_le_pow_right (by omega) h1
  have h4 : (2 : Nat) ^ 14 = 16384 := by decide
  unfold cutsOf lookT
  split
  ·simp
  ·omega
theorem A0_diags (n : Int) (hn : 3 ≤ n ∧ n ≤ 8) : A0 n n.toNat 0 n.toNat = diagsOf n := by
 have : n = 3 ∨ n = 4 ∨ n = 5 ∨ n = 6 ∨ n = 7 ∨ n = 8 := by omega
 rcases this with rfl | rfl | rfl | rfl | rfl | rfl <;> rfl
/-- What both return. -/
theorem both (n q : Int) : ∃ (K : Nat) (r : List (List DG)) (ok : Bool), (r.length ≤ 300000 ∧ ∀ x ∈ r, x.length ≤ 100) ∧ ∀ k, K ≤ k → spec_AllCuts.f n q = some (r, ok) ∧ impl_AllCuts.f k n q = some (r, ok) := by
 by_cases hn : 3 ≤ n ∧ n ≤ 8
 ·have w1 : wrap64 (n - 3) = n - 3 := by unfold wrap64; omega
  by_cases hq : 0 ≤ q ∧ q ≤ n - 3
  ·have h4 : 3 ≤ n ∧ n ≤ 8 ∧ 0 ≤ q ∧ q ≤ 5 := by omega
   refine ⟨301, cutsOf n q, true, ⟨cuts_few n q hn hq, fun x hx => by have := cuts_len n q x hx; omega⟩, fun k hk => ?_⟩
   have h5 : 0 ≤ q ∧ q ≤ 5 ∧ (diagsOf n).length ≤ 20 := ⟨hq.1, by omega, diagsOf_le n hn⟩
   have h6 := allDiagonals_tells n (by omega) k (by omega)
   rw [A0_diags n hn] at h6
   simp only [spec_AllCuts.f, impl_AllCuts.f, impl_isListedCut.f, l1In_tells, within_tells, w1, decide_eq_true hn, decide_eq_true hq, Option.bind_some, if_true, spec_cuAll.f, if_pos h4, h6, if_pos h5]
   exact ⟨trivial, rfl⟩
  ·refine ⟨0, [], false, ⟨by simp, fun x hx => by cases hx⟩, fun k hk => ?_⟩
   simp [spec_AllCuts.f, impl_AllCuts.f, impl_isListedCut.f, l1In_tells, within_tells, hn, w1, hq]
 ·refine ⟨0, [], false, ⟨by simp, fun x hx => by cases hx⟩, fun k hk => ?_⟩
  simp [spec_AllCuts.f, impl_AllCuts.f, impl_isListedCut.f, l1In_tells, within_tells, hn]

theorem FnExactAllCuts (n : Int) (q : Int) (_ : (Lit.int .i64 n).wf = true) (_ : (Lit.int .i64 q).wf = true) :
  ∃ k, laws_FnExactAllCuts.f k n q = some true := by
 obtain ⟨K1, r, ok, ⟨hrl, hrb⟩, hb⟩ := both n q
 obtain ⟨M, hM⟩ : ∃ M, M = K1 + (r.length + 10000) := ⟨_, rfl⟩
 have b1 : spec_AllCuts.f n q = some (r, ok) := (hb (M + 0) (by omega)).1
 have b2 : ∀ j, impl_AllCuts.f (M + j) n q = some (r, ok) := fun j => (hb (M + j) (by omega)).2
 have er : ∀ j, laws_eqDiagonalSS.f (M + j) r r = some true := fun j => eqSS_tells r hrl hrb (M + j) (by omega)
 have mr : ∀ j, laws_markDiagonalSS.f (M + j) r 1 = _ := fun j => markSS_tells r hrl hrb (M + j) (by omega)
 have hd : ∀ j, laws_heldDiagonalSS.f (M + j) (iotaSS 1 (r.map List.length)) 1 = _ := fun j => heldSS_tells r hrl hrb (M + j) (by omega)
 have hsum := sumL_ge (r.map List.length)
 have j1 : laws_FnExactAllCuts.j1 (M + 2) (iotaSS 1 (r.map List.length)) (1 + sumL (r.map List.length)) false = some true := by
  simp only [laws_FnExactAllCuts.j1, hd, Option.bind_some, Bool.false_eq_true, if_false, if_true]
  rw [if_neg (by omega)]
 have j0 : laws_FnExactAllCuts.j0 (M + 3) n q r ok r false = some true := by
  simp only [laws_FnExactAllCuts.j0, mr, hd, b2, er, Option.bind_some, Bool.false_eq_true, if_false, if_true]
  rw [if_neg (by omega), bne_self_eq_false]
  exact j1
 refine ⟨M + 3, ?_⟩
 simp only [laws_FnExactAllCuts.f, b1, b2, er, Option.bind_some, if_true]
 rw [bne_self_eq_false]
 exact j0

end Go.Proofs.Ytnikefebkcminaa.PureFnExactAllCuts
