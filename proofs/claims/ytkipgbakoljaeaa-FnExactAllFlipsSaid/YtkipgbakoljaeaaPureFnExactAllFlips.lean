/- The program's AllFlips and the reference's return the same for every number of corners and every list of pairs of numbers that the statement lets in: the flips of the diagonals, in order. No condition. -/
import Derived.Test.YtkipgbakoljaeaaPFnExactAllFlipsx0
import Derived.Test.YtkipgbakoljaeaaPFnExactAllFlipsx1
import Derived.Test.YtkipgbakoljaeaaPFnExactAllFlipsx10
import Derived.Test.YtkipgbakoljaeaaPFnExactAllFlipsx11
import Derived.Test.YtkipgbakoljaeaaPFnExactAllFlipsx12
import Derived.Test.YtkipgbakoljaeaaPFnExactAllFlipsx13
import Derived.Test.YtkipgbakoljaeaaPFnExactAllFlipsx14
import Derived.Test.YtkipgbakoljaeaaPFnExactAllFlipsx15
import Derived.Test.YtkipgbakoljaeaaPFnExactAllFlipsx2
import Derived.Test.YtkipgbakoljaeaaPFnExactAllFlipsx3
import Derived.Test.YtkipgbakoljaeaaPFnExactAllFlipsx4
import Derived.Test.YtkipgbakoljaeaaPFnExactAllFlipsx5
import Derived.Test.YtkipgbakoljaeaaPFnExactAllFlipsx6
import Derived.Test.YtkipgbakoljaeaaPFnExactAllFlipsx7
import Derived.Test.YtkipgbakoljaeaaPFnExactAllFlipsx8
import Derived.Test.YtkipgbakoljaeaaPFnExactAllFlipsx9
set_option linter.unusedSimpArgs false
set_option linter.unnecessarySimpa false
set_option linter.unusedVariables false
namespace Go.Proofs.Ytkipgbakoljaeaa.PureFnExactAllFlips
open Go.RowKit Go.Proofs.Ytkipgbakoljaeaa.PFnExactAllFlips Go.Proofs.YtkipgbakoljaeaaW.PrintWords Go.Proofs.YtkipgbakoljaeaaW.PrintLast

theorem Ev.at1 {α : Type} {g : Nat → Option α} {r : α} (h : Ev g r) : ∃ K, ∀ j, g (K + j) = some r := by
 obtain ⟨K, h⟩ := h
 exact ⟨K, fun j => h _ (by omega)⟩
theorem Ev.at2 {α β : Type} {g : Nat → Option α} {r : α} {g2 : Nat → Option β} {r2 : β} (h : Ev g r) (h2 : Ev g2 r2) : ∃ K, (∀ j, g (K + j) = some r) ∧ ∀ j, g2 (K + j) = some r2 := by
 obtain ⟨K, h⟩ := h
 obtain ⟨K2, h2⟩ := h2
 exact ⟨K + K2, fun j => h _ (by omega), fun j => h2 _ (by omega)⟩
theorem Ev.at3 {α β γ : Type} {g : Nat → Option α} {r : α} {g2 : Nat → Option β} {r2 : β} {g3 : Nat → Option γ} {r3 : γ} (h : Ev g r) (h2 : Ev g2 r2) (h3 : Ev g3 r3) :
  ∃ K, (∀ j, g (K + j) = some r) ∧ (∀ j, g2 (K + j) = some r2) ∧ ∀ j, g3 (K + j) = some r3 := by
 obtain ⟨K, h⟩ := h
 obtain ⟨K2, h2⟩ := h2
 obtain ⟨K3, h3⟩ := h3
 exact ⟨K + K2 + K3, fun j => h _ (by omega), fun j => h2 _ (by omega), fun j => h3 _ (by omega)⟩
theorem Ev.at4 {α β γ δ : Type} {g : Nat → Option α} {r : α} {g2 : Nat → Option β} {r2 : β} {g3 : Nat → Option γ} {r3 : γ} {g4 : Nat → Option δ} {r4 : δ} (h : Ev g r) (h2 : Ev g2 r2) (h3 : Ev g3 r3) (h4 : Ev g4 r4) :
  ∃ K, (∀ j, g (K + j) = some r) ∧ (∀ j, g2 (K + j) = some r2) ∧ (∀ j, g3 (K + j) = some r3) ∧ ∀ j, g4 (K + j) = some r4 := by
 obtain ⟨K, e1, e2, e3⟩ := Ev.at3 h h2 h3
 obtain ⟨K4, h4⟩ := h4
 exact ⟨K + K4, fun j => by rw [Nat.add_assoc]; exact e1 _, fun j => by rw [Nat.add_assoc]; exact e2 _, fun j => by rw [Nat.add_assoc]; exact e3 _, fun j => h4 _ (by omega)⟩
theorem Ev.all {α β : Type} {g : α → Nat → Option β} {r : α → β} (l : List α) (h : ∀ x, x ∈ l → Ev (g x) (r x)) : ∃ K, ∀ x, x ∈ l → ∀ k, K ≤ k → g x k = some (r x) := by
 induction l with
 | nil => exact ⟨0, fun x hx => by cases hx⟩
 | cons y l ih =>
  obtain ⟨K, hK⟩ := ih (fun x hx => h x (List.mem_cons_of_mem _ hx))
  obtain ⟨K2, hK2⟩ := h y (List.mem_cons_self ..)
  refine ⟨K + K2, fun x hx k hk => ?_⟩
  rcases List.mem_cons.1 hx with e | e
  ·subst e
   exact hK2 k (by omega)
  ·exact hK x e k (by omega)

theorem take_set_succ {α : Type} (l : List α) (i : Nat) (v : α) (h : i < l.length) : (l.set i v).take (i + 1) = l.take i ++ [v] := by
 rw [List.take_succ_eq_append_getElem (by rw [List.length_set]; exact h), List.getElem_set_self, List.take_set_of_le (Nat.le_refl i)]
theorem getD_drop {α : Type} (l : List α) (d : α) (i : Nat) (h : i < l.length) : l.drop i = l.getD i d :: l.drop (i + 1) := by
 rw [List.drop_eq_getElem_cons h, List.getD_eq_getElem?_getD, List.getElem?_eq_getElem h]
 rfl
theorem wrap_succ (i : Nat) (h : i < 4611686018427387904) : wrap64 ((i : Int) + 1) = ((i + 1 : Nat) : Int) := by unfold wrap64; omega
theorem wrap_pred (i : Nat) (h0 : 0 < i) (h : i < 4611686018427387904) : wrap64 ((i : Int) - 1) = ((i - 1 : Nat) : Int) := by unfold wrap64; omega

theorem l1In_tells (a b c : Int) : spec_l1In.f a b c = some (decide (b ≤ a ∧ a ≤ c)) := by
 unfold spec_l1In.f
 by_cases h : a ≥ b
 ·rw [if_pos h]
  have : b ≤ a := h
  simp [this]
 ·rw [if_neg h]
  have : ¬ b ≤ a := h
  simp [this]

theorem within_tells (a b c : Int) : impl_within.f a b c = some (decide (b ≤ a ∧ a ≤ c)) := by
 unfold impl_within.f
 by_cases h : a ≥ b
 ·rw [if_pos h]
  have : b ≤ a := h
  simp [this]
 ·rw [if_neg h]
  have : ¬ b ≤ a := h
  simp [this]

abbrev DG := S36
abbrev rD (l : List DG) (j : Nat) : DG := rd_T36 l (j : Int)
def crossB (a b c d : Int) : Bool := decide (a < c ∧ c < b ∧ b < d) || decide (c < a ∧ a < d ∧ d < b)
def diagB (n a b : Int) : Bool := decide (0 ≤ a ∧ b ≤ n - 1 ∧ b - a ≥ 2 ∧ b - a ≤ n - 2)
def lessB (a b c d : Int) : Bool := decide (a < c ∨ (a = c ∧ b < d))
def stepD (n : Int) (l : List DG) (j : Nat) : Bool :=
 diagB n (rD l j).f0 (rD l j).f1 && ((j == 0 || lessB (rD l (j - 1)).f0 (rD l (j - 1)).f1 (rD l j).f0 (rD l j).f1) && !(l.take j).any fun e => crossB (rD l j).f0 (rD l j).f1 e.f0 e.f1)
theorem stepD_def (n : Int) (l : List DG) (j : Nat) : stepD n l j = (diagB n (rD l j).f0 (rD l j).f1 && ((j == 0 || lessB (rD l (j - 1)).f0 (rD l (j - 1)).f1 (rD l j).f0 (rD l j).f1) && !(l.take j).any fun e => crossB (rD l j).f0 (rD l j).f1 e.f0 e.f1)) := rfl
def goodD (n : Int) (l : List DG) : Bool := (List.range' 0 l.length).all (stepD n l)

theorem rD_drop (l : List DG) (i : Nat) (h : i < l.length) : l.drop i = rD l i :: l.drop (i + 1) := by
 rw [getD_drop l z36 i h]
 unfold rD rd_T36
 rw [Int.toNat_natCast]
theorem any_take_step (p : DG → Bool) (l : List DG) (i : Nat) (h : i < l.length) : (l.drop i).any p = (p (rD l i) || (l.drop (i + 1)).any p) := by
 rw [rD_drop l i h, List.any_cons]

theorem poCross_tells (a b c d : Int) : spec_poCross.f a b c d = some (crossB a b c d) := by
 unfold spec_poCross.f crossB
 repeat' split
 all_goals congr 1; rw [Bool.eq_iff_iff]; simp only [Bool.or_eq_true, decide_eq_true_eq, Bool.false_eq_true, false_iff, true_iff]; omega
theorem poLess_tells (a b c d : Int) : spec_poLess.f a b c d = some (lessB a b c d) := by
 unfold spec_poLess.f lessB
 repeat' split
 all_goals congr 1; rw [Bool.eq_iff_iff]; simp only [decide_eq_true_eq, Bool.false_eq_true, false_iff, true_iff]; omega
theorem poIs_tells (n : Int) : spec_poIs.f n = some (decide (3 ≤ n ∧ n ≤ 12)) := by
 unfold spec_poIs.f
 rw [l1In_tells]
 rfl
theorem poDiagonal_tells (n a b : Int) (h : 3 ≤ n ∧ n ≤ 12) : spec_poDiagonal.f n a b = some (diagB n a b) := by
 unfold spec_poDiagonal.f diagB
 rw [poIs_tells, l1In_tells, l1In_tells, decide_eq_true h]
 have w : wrap64 (n - 1) = n - 1 := by unfold wrap64; omega
 have w2 : wrap64 (n - 2) = n - 2 := by unfold wrap64; omega
 simp only [Option.bind_some, if_true, w, w2, decide_eq_true_eq]
 by_cases h0 : 0 ≤ a ∧ a ≤ n - 1
 ·by_cases h1 : 0 ≤ b ∧ b ≤ n - 1
  ·have w3 : wrap64 (b - a) = b - a := by unfold wrap64; omega
   rw [if_pos h0, if_pos h1, w3]
   split
   all_goals congr 1; rw [Bool.eq_iff_iff]; simp only [decide_eq_true_eq, Bool.false_eq_true, false_iff]; omega
  ·rw [if_pos h0, if_neg h1]
   congr 1; rw [Bool.eq_iff_iff]; simp only [decide_eq_true_eq, Bool.false_eq_true, false_iff]; omega
 ·rw [if_neg h0]
  congr 1; rw [Bool.eq_iff_iff]; simp only [decide_eq_true_eq, Bool.false_eq_true, false_iff]; omega

theorem spec_poGood_inner (n : Int) (l y x19 : List DG) (x20 x21 c d : Int) (hy : y.length ≤ 4611686018427387904) (e : Nat) : ∀ (m k : Nat), m + e = y.length → e < k →
  spec_poGood.l1 k n l x19 x20 x21 y (y.length : Int) (m : Int) c d = if (y.drop m).any (fun z => crossB c d z.f0 z.f1) = true then some false else spec_poGood.l0 (k - e - 1) n l x19 x20 (wrap64 (x21 + 1)) := by
 induction e with
 | zero =>
  intro m k hm hk
  obtain ⟨k, rfl⟩ : ∃ q, k = q + 1 := ⟨k - 1, by omega⟩
  simp only [spec_poGood.l1]
  rw [if_neg (by omega), List.drop_of_length_le (by omega)]
  simp
 | succ e ih =>
  intro m k hm hk
  obtain ⟨k, rfl⟩ : ∃ q, k = q + 1 := ⟨k - 1, by omega⟩
  simp only [spec_poGood.l1]
  rw [if_pos (by omega), if_pos (by omega), if_pos (by omega), poCross_tells, Option.bind_some, wrap_succ m (by omega), ih (m + 1) k (by omega) (by omega), any_take_step _ y m (by omega)]
  rw [show k + 1 - (e + 1) - 1 = k - e - 1 by omega]
  cases crossB c d (rD y m).f0 (rD y m).f1 <;> simp
theorem spec_poGood_rounds (n : Int) (hn : 3 ≤ n ∧ n ≤ 12) (l : List DG) (hl : l.length ≤ 4611686018427387904) (d : Nat) : ∀ (i k : Nat), i + d = l.length → d * (l.length + 3) < k →
  spec_poGood.l0 k n l l (l.length : Int) (i : Int) = some ((List.range' i d).all (stepD n l)) := by
 induction d with
 | zero =>
  intro i k hi hk
  obtain ⟨k, rfl⟩ : ∃ q, k = q + 1 := ⟨k - 1, by omega⟩
  simp only [spec_poGood.l0]
  rw [if_neg (by omega)]
  rfl
 | succ d ih =>
  intro i k hi hk
  have hk2 : d * (l.length + 3) + (l.length + 3) < k := by rw [← Nat.succ_mul]; exact hk
  obtain ⟨k, rfl⟩ : ∃ q, k = q + 1 := ⟨k - 1, by omega⟩
  have hj : ∀ b : Bool, spec_poGood.j2 k n l (i : Int) l (l.length : Int) (i : Int) b (rD l i).f0 (rD l i).f1 =
    if b = true then some false else if (l.take i).any (fun z => crossB (rD l i).f0 (rD l i).f1 z.f0 z.f1) = true then some false else some ((List.range' (i + 1) d).all (stepD n l)) := by
   intro b
   obtain ⟨k, rfl⟩ : ∃ q, k = q + 1 := ⟨k - 1, by omega⟩
   have ht : (l.take i).length = i := by rw [List.length_take]; omega
   have h1 := spec_poGood_inner n l (l.take i) l (l.length : Int) (i : Int) (rD l i).f0 (rD l i).f1 (by omega) i 0 k (by omega) (by omega)
   rw [List.drop_zero, wrap_succ i (by omega), ih (i + 1) _ (by omega) (by omega)] at h1
   simp only [spec_poGood.j2, Int.toNat_natCast, Option.bind_some]
   cases b
   ·rw [if_neg (by simp), if_pos (by omega), if_pos (by omega), if_neg (by simp)]
    exact h1
   ·rfl
  simp only [spec_poGood.l0]
  rw [if_pos (by omega), if_pos (by omega), if_pos (by omega), poDiagonal_tells n _ _ hn, Option.bind_some, List.range'_succ, List.all_cons, hj, hj, stepD_def n l i]
  cases diagB n (rD l i).f0 (rD l i).f1 with
  | false => simp
  | true =>
   rw [if_pos rfl]
   by_cases h0 : i = 0
   ·subst h0
    rw [if_neg (by omega)]
    cases (l.take 0).any (fun z => crossB (rD l 0).f0 (rD l 0).f1 z.f0 z.f1) <;> simp
   ·have b0 : (i == 0) = false := by simp [h0]
    rw [if_pos (by omega), wrap_pred i (by omega) (by omega), if_pos (by omega), if_pos (by omega), poLess_tells, Option.bind_some, hj, b0]
    cases lessB (rD l (i - 1)).f0 (rD l (i - 1)).f1 (rD l i).f0 (rD l i).f1 <;> cases (l.take i).any (fun z => crossB (rD l i).f0 (rD l i).f1 z.f0 z.f1) <;> simp

def isTriB (n : Int) (l : List DG) : Bool := decide (3 ≤ n ∧ n ≤ 12) && (decide ((l.length : Int) = n - 3) && goodD n l)
theorem poGood_tells (n : Int) (l : List DG) (hl : l.length ≤ 4611686018427387904) : Ev (fun k => spec_poGood.f k n l) (isTriB n l) := by
 refine ⟨l.length * (l.length + 3) + 2, fun k hk => ?_⟩
 obtain ⟨k, rfl⟩ : ∃ q, k = q + 1 := ⟨k - 1, by omega⟩
 show spec_poGood.f (k + 1) n l = _
 unfold spec_poGood.f isTriB goodD
 rw [poIs_tells, Option.bind_some]
 by_cases hn : 3 ≤ n ∧ n ≤ 12
 ·have w : wrap64 (n - 3) = n - 3 := by unfold wrap64; omega
  have h := spec_poGood_rounds n hn l hl l.length 0 k (by omega) (by omega)
  rw [show ((0 : Nat) : Int) = 0 from rfl] at h
  rw [decide_eq_true hn, if_pos rfl, w]
  simp only [spec_poGood.j0, h]
  by_cases hc : (l.length : Int) = n - 3
  ·rw [decide_eq_true hc, hc]
   simp
  ·rw [decide_eq_false hc]
   simp [hc]
 ·rw [decide_eq_false hn]
  rfl

theorem doCross_tells (a b c d : Int) : impl_doCross.f a b c d = some (crossB a b c d) := by
 unfold impl_doCross.f crossB
 repeat' split
 all_goals congr 1; rw [Bool.eq_iff_iff]; simp only [Bool.or_eq_true, decide_eq_true_eq, Bool.false_eq_true, false_iff, true_iff]; omega
theorem isPolygon_tells (n : Int) : impl_isPolygon.f n = some (decide (3 ≤ n ∧ n ≤ 12)) := by
 unfold impl_isPolygon.f
 rw [within_tells]
 rfl
theorem isDiagonal_tells (n a b : Int) (h : 3 ≤ n ∧ n ≤ 12) : impl_isDiagonal.f n a b = some (diagB n a b) := by
 unfold impl_isDiagonal.f diagB
 rw [within_tells, within_tells]
 have w : wrap64 (n - 1) = n - 1 := by unfold wrap64; omega
 simp only [Option.bind_some, w, decide_eq_true_eq]
 by_cases h0 : 0 ≤ a ∧ a ≤ n - 1
 ·by_cases h1 : 0 ≤ b ∧ b ≤ n - 1
  ·have w3 : wrap64 (b - a) = b - a := by unfold wrap64; omega
   rw [if_pos h0, if_pos h1, w3]
   repeat' split
   all_goals congr 1; rw [Bool.eq_iff_iff]; simp only [decide_eq_true_eq, Bool.false_eq_true, false_iff, Bool.not_eq_true', beq_eq_false_iff_ne, ne_eq, Bool.not_false, true_iff]; omega
  ·rw [if_pos h0, if_neg h1]
   congr 1; rw [Bool.eq_iff_iff]; simp only [decide_eq_true_eq, Bool.false_eq_true, false_iff]; omega
 ·rw [if_neg h0]
  congr 1; rw [Bool.eq_iff_iff]; simp only [decide_eq_true_eq, Bool.false_eq_true, false_iff]; omega
def cmpI (a c : Int) : Int := if a < c then -1 else if a > c then 1 else 0
def cmpD (a b c d : Int) : Int := if a = c then cmpI b d else cmpI a c
theorem compare_tells (a c : Int) : cmp_Compare_int.f a c = some (cmpI a c) := by
 unfold cmp_Compare_int.f cmp_isNaN_int.f cmpI
 have h0 : (a != a) = false := by simp
 have h1 : (c != c) = false := by simp
 rw [h0, h1]
 simp only [Option.bind_some, Bool.false_eq_true, if_false]
 repeat' split
 all_goals rfl
theorem compareDiagonals_tells (a b c d : Int) (k : Nat) (hk : 3 ≤ k) : impl_compareDiagonals.f k a b c d = some (cmpD a b c d) := by
 obtain ⟨k, rfl⟩ : ∃ q, k = q + 3 := ⟨k - 3, by omega⟩
 unfold impl_compareDiagonals.f cmp_Or_int.f
 rw [compare_tells, compare_tells]
 simp only [Option.bind_some, List.length_cons, List.length_nil]
 have r0 : rd [cmpI a c, cmpI b d] 0 = cmpI a c := rfl
 have r1 : rd [cmpI a c, cmpI b d] 1 = cmpI b d := rfl
 have w0 : wrap64 (0 + 1) = 1 := by unfold wrap64; omega
 have w1 : wrap64 (1 + 1) = 2 := by unfold wrap64; omega
 simp only [cmp_Or_int.l0, w0, w1, r0, r1]
 unfold cmpD
 by_cases e : a = c
 ·have z : cmpI a c = 0 := by unfold cmpI; rw [if_neg (by omega), if_neg (by omega)]
  rw [if_pos e, z]
  by_cases z2 : cmpI b d = 0
  ·simp [z2]
  ·simp [z2]
 ·have z : ¬ cmpI a c = 0 := by
   unfold cmpI
   split
   ·omega
   ·split <;> omega
  rw [if_neg e]
  simp [z]
theorem cmpD_nonneg (a b c d : Int) : cmpD a b c d ≥ 0 ↔ lessB a b c d = false := by
 unfold cmpD cmpI lessB
 rw [decide_eq_false_iff_not]
 repeat' split
 all_goals omega

theorem impl_Diagonal_89_s1_rounds (l : List DG) (c d : Int) (hl : l.length ≤ 4611686018427387904) (e : Nat) : ∀ (i k : Nat), i + e = l.length → e < k →
  ∃ r, impl_Diagonal_89_s1.l0 k l (l.length : Int) (i : Int) c d = some r ∧ (r ≥ 0 ↔ (l.drop i).any (fun z => crossB c d z.f0 z.f1) = true) := by
 induction e with
 | zero =>
  intro i k hi hk
  obtain ⟨k, rfl⟩ : ∃ q, k = q + 1 := ⟨k - 1, by omega⟩
  simp only [impl_Diagonal_89_s1.l0]
  rw [if_neg (by omega), List.drop_of_length_le (by omega)]
  exact ⟨-1, rfl, by simp⟩
 | succ e ih =>
  intro i k hi hk
  obtain ⟨k, rfl⟩ : ∃ q, k = q + 1 := ⟨k - 1, by omega⟩
  obtain ⟨r, hr, hr2⟩ := ih (i + 1) k (by omega) (by omega)
  simp only [impl_Diagonal_89_s1.l0, impl_IsTriangulation_1_s2.f]
  rw [if_pos (by omega), if_pos (by omega), if_pos (by omega), doCross_tells, wrap_succ i (by omega), hr, any_take_step _ l i (by omega)]
  simp only [Option.bind_some]
  cases hc : crossB c d (rD l i).f0 (rD l i).f1 with
  | true => exact ⟨i, rfl, by simp⟩
  | false => exact ⟨r, rfl, by rw [Bool.false_or]; exact hr2⟩
theorem impl_Diagonal_84_s0_tells (l : List DG) (c d : Int) (hl : l.length ≤ 4611686018427387904) (k : Nat) (hk : l.length < k) : impl_Diagonal_84_s0.f k l c d = some (l.any fun z => crossB c d z.f0 z.f1) := by
 obtain ⟨r, hr, hr2⟩ := impl_Diagonal_89_s1_rounds l c d hl l.length 0 k (by omega) hk
 unfold impl_Diagonal_84_s0.f impl_Diagonal_89_s1.f
 rw [show ((0 : Nat) : Int) = 0 from rfl] at hr
 rw [hr, Option.bind_some]
 congr 1
 rw [Bool.eq_iff_iff, decide_eq_true_iff, hr2, List.drop_zero]

theorem impl_IsTriangulation_rounds (n : Int) (hn : 3 ≤ n ∧ n ≤ 12) (l : List DG) (hl : l.length ≤ 4611686018427387904) (d : Nat) : ∀ (i k : Nat), i + d = l.length → d + l.length + 3 < k →
  impl_IsTriangulation.l0 k n l l (l.length : Int) (i : Int) = some ((List.range' i d).all (stepD n l)) := by
 induction d with
 | zero =>
  intro i k hi hk
  obtain ⟨k, rfl⟩ : ∃ q, k = q + 1 := ⟨k - 1, by omega⟩
  simp only [impl_IsTriangulation.l0]
  rw [if_neg (by omega)]
  rfl
 | succ d ih =>
  intro i k hi hk
  obtain ⟨k, rfl⟩ : ∃ q, k = q + 1 := ⟨k - 1, by omega⟩
  have ht : (l.take i).length = i := by rw [List.length_take]; omega
  have hc : impl_Diagonal_84_s0.f k (l.take i) (rD l i).f0 (rD l i).f1 = some ((l.take i).any fun z => crossB (rD l i).f0 (rD l i).f1 z.f0 z.f1) := impl_Diagonal_84_s0_tells _ _ _ (by omega) k (by omega)
  simp only [impl_IsTriangulation.l0, Int.toNat_natCast]
  rw [if_pos (by omega), if_pos (by omega), if_pos (by omega), isDiagonal_tells n _ _ hn, Option.bind_some, hc, Option.bind_some, wrap_succ i (by omega), ih (i + 1) k (by omega) (by omega), List.range'_succ, List.all_cons, stepD_def n l i]
  cases diagB n (rD l i).f0 (rD l i).f1 with
  | false => simp
  | true =>
   rw [if_pos rfl]
   by_cases h0 : i = 0
   ·subst h0
    rw [if_neg (by omega), if_pos (by omega)]
    cases (l.take 0).any (fun z => crossB (rD l 0).f0 (rD l 0).f1 z.f0 z.f1) <;> simp
   ·have b0 : (i == 0) = false := by simp [h0]
    rw [if_pos (by omega), wrap_pred i (by omega) (by omega), if_pos (by omega), if_pos (by omega), compareDiagonals_tells _ _ _ _ k (by omega), Option.bind_some, b0]
    have hcm := cmpD_nonneg (rD l (i - 1)).f0 (rD l (i - 1)).f1 (rD l i).f0 (rD l i).f1
    cases hs : lessB (rD l (i - 1)).f0 (rD l (i - 1)).f1 (rD l i).f0 (rD l i).f1 with
    | false => rw [if_pos (hcm.2 hs)]; simp
    | true =>
     rw [if_neg (fun h => by rw [hcm.1 h] at hs; cases hs), if_pos (by omega)]
     cases (l.take i).any (fun z => crossB (rD l i).f0 (rD l i).f1 z.f0 z.f1) <;> simp

theorem isTri_tells (n : Int) (l : List DG) (hl : l.length ≤ 4611686018427387904) : Ev (fun k => impl_IsTriangulation.f k n l) (isTriB n l) := by
 refine ⟨l.length + l.length + 5, fun k hk => ?_⟩
 obtain ⟨k, rfl⟩ : ∃ q, k = q + 1 := ⟨k - 1, by omega⟩
 show impl_IsTriangulation.f (k + 1) n l = _
 unfold impl_IsTriangulation.f isTriB goodD
 rw [isPolygon_tells, Option.bind_some]
 by_cases hn : 3 ≤ n ∧ n ≤ 12
 ·have w : wrap64 (n - 3) = n - 3 := by unfold wrap64; omega
  have h := impl_IsTriangulation_rounds n hn l hl l.length 0 k (by omega) (by omega)
  rw [show ((0 : Nat) : Int) = 0 from rfl] at h
  rw [decide_eq_true hn, if_pos rfl, w]
  simp only [impl_IsTriangulation.j0, h]
  by_cases hc : (l.length : Int) = n - 3
  ·rw [decide_eq_true hc, hc]
   simp
  ·rw [decide_eq_false hc]
   simp [hc]
 ·rw [decide_eq_false hn]
  simp [impl_IsTriangulation.j0]

theorem cnt_split {α : Type} (p q r : α → Bool) : ∀ l : List α, (∀ x ∈ l, p x = true → q x = true ∨ r x = true) → l.countP p ≤ l.countP q + l.countP r
 | [], _ => by simp
 | x :: l, h => by
  have ih := cnt_split p q r l (fun y hy => h y (List.mem_cons_of_mem _ hy))
  have hx := h x (List.mem_cons_self ..)
  simp only [List.countP_cons]
  cases hp : p x <;> cases hq : q x <;> cases hr : r x <;> simp_all <;> omega
theorem cnt_zero {α : Type} (p : α → Bool) (l : List α) (h : ∀ x ∈ l, p x = false) : l.countP p = 0 := by
 rw [List.countP_eq_zero]
 intro x hx
 simp [h x hx]
theorem last_of (P : Int → Prop) : ∀ (m : Nat) (lo hi : Int), hi - lo ≤ m → lo < hi → P lo → ∃ c, lo ≤ c ∧ c < hi ∧ P c ∧ ∀ c', c < c' → c' < hi → ¬ P c'
 | 0, lo, hi, h, h2, _ => by omega
 | m + 1, lo, hi, h, h2, hP => by
  by_cases hx : ∃ c, lo < c ∧ c < hi ∧ P c
  ·obtain ⟨c, h3, h4, h5⟩ := hx
   obtain ⟨e, h6, h7, h8, h9⟩ := last_of P m c hi (by omega) h4 h5
   exact ⟨e, by omega, h7, h8, h9⟩
  ·exact ⟨lo, by omega, h2, hP, fun c' h3 h4 h5 => hx ⟨c', h3, h4, h5⟩⟩

def hasD (l : List DG) (a b : Int) : Bool := l.any fun d => d.f0 == a && d.f1 == b
theorem hasD_of {l : List DG} {d : DG} (h : d ∈ l) : hasD l d.f0 d.f1 = true := List.any_eq_true.2 ⟨d, h, by simp⟩
theorem hasD_mem {l : List DG} {a b : Int} (h : hasD l a b = true) : ∃ d ∈ l, d.f0 = a ∧ d.f1 = b := by
 obtain ⟨d, h1, h2⟩ := List.any_eq_true.1 h
 simp only [Bool.and_eq_true, beq_iff_eq] at h2
 exact ⟨d, h1, h2⟩
def under (l : List DG) (i j : Int) : Nat := l.countP fun d => decide (i ≤ d.f0 ∧ d.f1 ≤ j)
def inner (l : List DG) (i j : Int) : Nat := l.countP fun d => decide (i ≤ d.f0 ∧ d.f1 ≤ j ∧ ¬ (d.f0 = i ∧ d.f1 = j))

structure Tri (n : Int) (l : List DG) : Prop where
 n3 : 3 ≤ n ∧ n ≤ 12
 len : (l.length : Int) = n - 3
 ok : ∀ d ∈ l, 0 ≤ d.f0 ∧ d.f1 ≤ n - 1 ∧ 2 ≤ d.f1 - d.f0 ∧ d.f1 - d.f0 ≤ n - 2
 nc : ∀ d ∈ l, ∀ e ∈ l, ¬ (d.f0 < e.f0 ∧ e.f0 < d.f1 ∧ d.f1 < e.f1)
 sorted : l.Pairwise fun d e => d.f0 < e.f0 ∨ (d.f0 = e.f0 ∧ d.f1 < e.f1)

theorem cnt_one (a b : Int) : ∀ l : List DG, (l.Pairwise fun d e => d.f0 < e.f0 ∨ (d.f0 = e.f0 ∧ d.f1 < e.f1)) → l.countP (fun d => decide (d.f0 = a ∧ d.f1 = b)) ≤ if hasD l a b = true then 1 else 0
 | [], _ => by simp
 | x :: l, h => by
  obtain ⟨h1, h2⟩ := List.pairwise_cons.1 h
  have ih := cnt_one a b l h2
  simp only [List.countP_cons]
  by_cases hx : x.f0 = a ∧ x.f1 = b
  ·have hz : l.countP (fun d => decide (d.f0 = a ∧ d.f1 = b)) = 0 := by
    apply cnt_zero
    intro y hy
    have := h1 y hy
    rw [decide_eq_false_iff_not]
    omega
   have hh : hasD (x :: l) a b = true := by
    rw [← hx.1, ← hx.2]
    exact hasD_of (List.mem_cons_self ..)
   rw [hz, if_pos hh]
   simp [hx]
  ·have hh : hasD (x :: l) a b = hasD l a b := by
    unfold hasD
    rw [List.any_cons]
    have : (x.f0 == a && x.f1 == b) = false := by
     rw [Bool.eq_false_iff]
     simpa using hx
    rw [this, Bool.false_or]
   rw [hh]
   simp only [hx, decide_false, Bool.false_eq_true, if_false]
   exact ih

theorem Tri.under_inner {n : Int} {l : List DG} (T : Tri n l) (i j : Int) : under l i j ≤ inner l i j + if hasD l i j = true then 1 else 0 := by
 have h1 := cnt_split (fun d : DG => decide (i ≤ d.f0 ∧ d.f1 ≤ j)) (fun d : DG => decide (i ≤ d.f0 ∧ d.f1 ≤ j ∧ ¬ (d.f0 = i ∧ d.f1 = j))) (fun d : DG => decide (d.f0 = i ∧ d.f1 = j)) l (fun x _ h => by
  simp only [decide_eq_true_eq] at h ⊢
  omega)
 have h2 := cnt_one i j l T.sorted
 unfold under inner
 omega

theorem Tri.half {n : Int} {l : List DG} (T : Tri n l) (a b : Int) (h1 : 1 ≤ b - a) (ih : 2 ≤ b - a → (inner l a b : Int) ≤ b - a - 2) :
  (under l a b : Int) ≤ b - a - 1 ∧ ((under l a b : Int) = b - a - 1 → b - a = 1 ∨ (hasD l a b = true ∧ 2 ≤ b - a ∧ (inner l a b : Int) = b - a - 2)) := by
 by_cases h2 : 2 ≤ b - a
 ·have h3 := ih h2
  have h4 := T.under_inner a b
  cases hh : hasD l a b
  ·rw [hh, if_neg (by simp)] at h4
   exact ⟨by omega, fun _ => by omega⟩
  ·rw [hh, if_pos rfl] at h4
   exact ⟨by omega, fun _ => .inr ⟨rfl, h2, by omega⟩⟩
 ·have hz : under l a b = 0 := by
   apply cnt_zero
   intro d hd
   have := T.ok d hd
   rw [decide_eq_false_iff_not]
   omega
  rw [hz]
  exact ⟨by omega, fun _ => .inl (by omega)⟩

theorem Tri.split {n : Int} {l : List DG} (T : Tri n l) (i j : Int) (h : 2 ≤ j - i) :
  ∃ c, i < c ∧ c < j ∧ ∀ d ∈ l, i ≤ d.f0 → d.f1 ≤ j → ¬ (d.f0 = i ∧ d.f1 = j) → d.f1 ≤ c ∨ c ≤ d.f0 := by
 obtain ⟨c, h1, h2, h3, h4⟩ := last_of (fun c => c = i + 1 ∨ hasD l i c = true) (j - (i + 1)).toNat (i + 1) j (by omega) (by omega) (.inl rfl)
 refine ⟨c, by omega, h2, fun d hd h5 h6 h7 => ?_⟩
 by_cases h8 : d.f1 ≤ c
 ·exact .inl h8
 ·by_cases h9 : c ≤ d.f0
  ·exact .inr h9
  ·exfalso
   by_cases e : d.f0 = i
   ·refine h4 d.f1 (by omega) (by omega) (.inr ?_)
    rw [← e]
    exact hasD_of hd
   ·rcases h3 with h3 | h3
    ·omega
    ·obtain ⟨x, hx, hx1, hx2⟩ := hasD_mem h3
     exact T.nc x hx d hd (by omega)

theorem inner_le (l : List DG) (i j c : Int) (h : ∀ d ∈ l, i ≤ d.f0 → d.f1 ≤ j → ¬ (d.f0 = i ∧ d.f1 = j) → d.f1 ≤ c ∨ c ≤ d.f0) : inner l i j ≤ under l i c + under l c j := by
 apply cnt_split
 intro d hd h1
 have h2 := h d hd
 simp only [decide_eq_true_eq] at h1 ⊢
 have h3 := h2 h1.1 h1.2.1 h1.2.2
 omega

theorem Tri.bound {n : Int} {l : List DG} (T : Tri n l) : ∀ (m : Nat) (i j : Int), j - i ≤ m → 2 ≤ j - i → (inner l i j : Int) ≤ j - i - 2
 | 0, i, j, h, h2 => by omega
 | m + 1, i, j, h, h2 => by
  obtain ⟨c, h3, h4, h5⟩ := T.split i j h2
  have h6 := inner_le l i j c h5
  have h7 := (T.half i c (by omega) (fun h => T.bound m i c (by omega) h)).1
  have h8 := (T.half c j (by omega) (fun h => T.bound m c j (by omega) h)).1
  omega

def Full (l : List DG) (i j : Int) : Prop := 2 ≤ j - i ∧ (inner l i j : Int) = j - i - 2

theorem Tri.apex {n : Int} {l : List DG} (T : Tri n l) (i j : Int) (hf : Full l i j) :
  ∃ c, i < c ∧ c < j ∧ (c - i = 1 ∨ (hasD l i c = true ∧ Full l i c)) ∧ (j - c = 1 ∨ (hasD l c j = true ∧ Full l c j)) ∧
   ∀ d ∈ l, i ≤ d.f0 → d.f1 ≤ j → ¬ (d.f0 = i ∧ d.f1 = j) → d.f1 ≤ c ∨ c ≤ d.f0 := by
 obtain ⟨h2, hf⟩ := hf
 obtain ⟨c, h3, h4, h5⟩ := T.split i j h2
 have h6 := inner_le l i j c h5
 obtain ⟨h7, g7⟩ := T.half i c (by omega) (fun h => T.bound (c - i).toNat i c (by omega) h)
 obtain ⟨h8, g8⟩ := T.half c j (by omega) (fun h => T.bound (j - c).toNat c j (by omega) h)
 exact ⟨c, h3, h4, g7 (by omega), g8 (by omega), h5⟩

/-- Two corners are joined: by a side or by a diagonal. -/
def J (n : Int) (l : List DG) (a b : Int) : Prop := b = a + 1 ∨ (a = 0 ∧ b = n - 1) ∨ hasD l a b = true

theorem J.of {n : Int} {l : List DG} {a b : Int} {P : Prop} (h : b - a = 1 ∨ (hasD l a b = true ∧ P)) : J n l a b := by
 rcases h with h | h
 ·exact .inl (by omega)
 ·exact .inr (.inr h.1)

theorem Tri.reach {n : Int} {l : List DG} (T : Tri n l) : ∀ (m : Nat) (i j : Int), j - i ≤ m → Full l i j → 0 ≤ i → j ≤ n - 1 → J n l i j → ∀ d ∈ l, i ≤ d.f0 → d.f1 ≤ j → ¬ (d.f0 = i ∧ d.f1 = j) →
  (∃ c, d.f0 < c ∧ c < d.f1 ∧ J n l d.f0 c ∧ J n l c d.f1) ∧ ∃ o, 0 ≤ o ∧ o ≤ n - 1 ∧ ((o < d.f0 ∧ J n l o d.f0 ∧ J n l o d.f1) ∨ (d.f1 < o ∧ J n l d.f0 o ∧ J n l d.f1 o))
 | 0, i, j, h, hf, _, _, _, d, _, _, _, _ => by have := hf.1; omega
 | m + 1, i, j, h, hf, hi, hj, hJ, d, hd, h1, h2, h3 => by
  obtain ⟨c, c1, c2, c3, c4, c5⟩ := T.apex i j hf
  have hok := T.ok d hd
  rcases c5 d hd h1 h2 h3 with h4 | h4
  ·rcases c3 with c3 | ⟨c3, f3⟩
   ·omega
   ·by_cases e : d.f0 = i ∧ d.f1 = c
    ·obtain ⟨e1, e2⟩ := e
     obtain ⟨x, x1, x2, x3, x4, _⟩ := T.apex i c f3
     rw [e1, e2]
     exact ⟨⟨x, x1, x2, J.of x3, J.of x4⟩, j, by omega, hj, .inr ⟨by omega, hJ, J.of c4⟩⟩
    ·exact T.reach m i c (by omega) f3 hi (by omega) (.inr (.inr c3)) d hd h1 h4 e
  ·rcases c4 with c4 | ⟨c4, f4⟩
   ·omega
   ·by_cases e : d.f0 = c ∧ d.f1 = j
    ·obtain ⟨e1, e2⟩ := e
     obtain ⟨x, x1, x2, x3, x4, _⟩ := T.apex c j f4
     rw [e1, e2]
     exact ⟨⟨x, x1, x2, J.of x3, J.of x4⟩, i, by omega, by omega, .inl ⟨by omega, J.of c3, hJ⟩⟩
    ·exact T.reach m c j (by omega) f4 (by omega) hj (.inr (.inr c4)) d hd h4 h2 e

theorem Tri.jcross {n : Int} {l : List DG} (T : Tri n l) {a b c d : Int} (h1 : J n l a b) (h2 : J n l c d) (ha : 0 ≤ a) (hd : d ≤ n - 1) : ¬ (a < c ∧ c < b ∧ b < d) := by
 intro h
 rcases h1 with h1 | h1 | h1
 ·omega
 ·omega
 ·rcases h2 with h2 | h2 | h2
  ·omega
  ·omega
  ·obtain ⟨x, hx, x1, x2⟩ := hasD_mem h1
   obtain ⟨y, hy, y1, y2⟩ := hasD_mem h2
   exact T.nc x hx y hy (by omega)

/-- The two corners with which the ends of a diagonal are joined: one inside, one outside, and no other. -/
theorem Tri.two {n : Int} {l : List DG} (T : Tri n l) (d : DG) (hd : d ∈ l) : ∃ x o, d.f0 < x ∧ x < d.f1 ∧ 0 ≤ o ∧ o ≤ n - 1 ∧ (o < d.f0 ∨ d.f1 < o) ∧
  (J n l d.f0 x ∧ J n l x d.f1) ∧ (J n l (min o d.f0) (max o d.f0) ∧ J n l (min o d.f1) (max o d.f1)) ∧
  ∀ c, 0 ≤ c → c ≤ n - 1 → c ≠ d.f0 → c ≠ d.f1 → (J n l (min c d.f0) (max c d.f0) ∧ J n l (min c d.f1) (max c d.f1)) → c = x ∨ c = o := by
 have hok := T.ok d hd
 have hn := T.n3
 have hfull : Full l 0 (n - 1) := by
  refine ⟨by omega, ?_⟩
  have : inner l 0 (n - 1) = l.length := by
   unfold inner
   rw [List.countP_eq_length]
   intro e he
   have := T.ok e he
   rw [decide_eq_true_eq]
   omega
  rw [this, T.len]
  omega
 obtain ⟨⟨x, x1, x2, x3, x4⟩, o, o1, o2, o3⟩ := T.reach (n - 1).toNat 0 (n - 1) (by omega) hfull (by omega) (by omega) (.inr (.inl ⟨rfl, rfl⟩)) d hd (by omega) (by omega) (by omega)
 refine ⟨x, o, x1, x2, o1, o2, by omega, ⟨x3, x4⟩, ?_, ?_⟩
 ·rcases o3 with ⟨h, h5, h6⟩ | ⟨h, h5, h6⟩
  ·rw [Int.min_eq_left (by omega), Int.max_eq_right (by omega), Int.min_eq_left (by omega), Int.max_eq_right (by omega)]
   exact ⟨h5, h6⟩
  ·rw [Int.min_eq_right (by omega), Int.max_eq_left (by omega), Int.min_eq_right (by omega), Int.max_eq_left (by omega)]
   exact ⟨h5, h6⟩
 ·intro c c1 c2 c3 c4 ⟨j1, j2⟩
  by_cases hx : c = x
  ·exact .inl hx
  ·by_cases ho : c = o
   ·exact .inr ho
   ·exfalso
    by_cases hin : d.f0 < c ∧ c < d.f1
    ·rw [Int.min_eq_right (by omega), Int.max_eq_left (by omega)] at j1
     rw [Int.min_eq_left (by omega), Int.max_eq_right (by omega)] at j2
     by_cases hlt : c < x
     ·exact T.jcross x3 j2 (by omega) (by omega) (by omega)
     ·exact T.jcross j1 x4 (by omega) (by omega) (by omega)
    ·rcases o3 with ⟨h, h5, h6⟩ | ⟨h, h5, h6⟩
     ·by_cases hc : c < d.f0
      ·rw [Int.min_eq_left (by omega), Int.max_eq_right (by omega)] at j1
       rw [Int.min_eq_left (by omega), Int.max_eq_right (by omega)] at j2
       by_cases hlt : c < o
       ·exact T.jcross j1 h6 (by omega) (by omega) (by omega)
       ·exact T.jcross h5 j2 (by omega) (by omega) (by omega)
      ·rw [Int.min_eq_right (by omega), Int.max_eq_left (by omega)] at j1
       exact T.jcross h6 j1 (by omega) (by omega) (by omega)
     ·by_cases hc : c < d.f0
      ·rw [Int.min_eq_left (by omega), Int.max_eq_right (by omega)] at j2
       exact T.jcross j2 h5 (by omega) (by omega) (by omega)
      ·rw [Int.min_eq_right (by omega), Int.max_eq_left (by omega)] at j1
       rw [Int.min_eq_right (by omega), Int.max_eq_left (by omega)] at j2
       by_cases hlt : c < o
       ·exact T.jcross j1 h6 (by omega) (by omega) (by omega)
       ·exact T.jcross h5 j2 (by omega) (by omega) (by omega)

theorem pair_chain (l : List DG) (h : ∀ j, 0 < j → j < l.length → (rD l (j - 1)).f0 < (rD l j).f0 ∨ ((rD l (j - 1)).f0 = (rD l j).f0 ∧ (rD l (j - 1)).f1 < (rD l j).f1)) : l.Pairwise fun d e => d.f0 < e.f0 ∨ (d.f0 = e.f0 ∧ d.f1 < e.f1) := by
 induction l with
 | nil => exact List.Pairwise.nil
 | cons x l ih =>
  have h' := ih (fun j j1 j2 => by
   have := h (j + 1) (by omega) (by simpa using j2)
   rw [show j + 1 - 1 = (j - 1) + 1 by omega] at this
   simpa [rD, rd_T36] using this)
  refine List.pairwise_cons.2 ⟨?_, h'⟩
  intro y hy
  cases l with
  | nil => cases hy
  | cons z l =>
   have h0 := h 1 (by omega) (by simp)
   have h1 : x.f0 < z.f0 ∨ (x.f0 = z.f0 ∧ x.f1 < z.f1) := by simpa [rD, rd_T36] using h0
   rcases List.mem_cons.1 hy with e | e
   ·rw [e]
    exact h1
   ·have := (List.pairwise_cons.1 h').1 y e
    omega

theorem rD_get (l : List DG) (j : Nat) (h : j < l.length) : rD l j = l[j] := by
 unfold rD rd_T36
 rw [Int.toNat_natCast, List.getD_eq_getElem?_getD, List.getElem?_eq_getElem h]
 rfl

theorem tri_of (n : Int) (l : List DG) (h : isTriB n l = true) : Tri n l := by
 unfold isTriB goodD at h
 simp only [Bool.and_eq_true, decide_eq_true_eq, List.all_eq_true] at h
 obtain ⟨hn, hl, hs⟩ := h
 have hst : ∀ j, j < l.length → stepD n l j = true := fun j hj => hs j (List.mem_range'_1.2 ⟨by omega, by omega⟩)
 have hok : ∀ d ∈ l, 0 ≤ d.f0 ∧ d.f1 ≤ n - 1 ∧ 2 ≤ d.f1 - d.f0 ∧ d.f1 - d.f0 ≤ n - 2 := by
  intro d hd
  obtain ⟨j, hj, e⟩ := List.getElem_of_mem hd
  have h1 := hst j hj
  rw [stepD_def, rD_get l j hj, e] at h1
  simp only [Bool.and_eq_true, diagB, decide_eq_true_eq] at h1
  omega
 have hnc : ∀ (j : Nat) (hj : j < l.length) (i : Nat) (hi : i < j), crossB l[j].f0 l[j].f1 l[i].f0 l[i].f1 = false := by
  intro j hj i hi
  have h1 := hst j hj
  rw [stepD_def, rD_get l j hj] at h1
  simp only [Bool.and_eq_true, Bool.not_eq_true'] at h1
  have h2 := List.any_eq_false.1 h1.2.2 l[i] (by
   rw [List.mem_take_iff_getElem]
   exact ⟨i, by omega, rfl⟩)
  simpa using h2
 refine ⟨hn, hl, hok, ?_, pair_chain l ?_⟩
 ·intro d hd e he hx
  obtain ⟨i, hi, e1⟩ := List.getElem_of_mem hd
  obtain ⟨j, hj, e2⟩ := List.getElem_of_mem he
  subst e1 e2
  rcases Nat.lt_trichotomy i j with h1 | h1 | h1
  ·have := hnc j hj i h1
   simp only [crossB, Bool.or_eq_false_iff, decide_eq_false_iff_not] at this
   omega
  ·subst h1
   omega
  ·have := hnc i hi j h1
   simp only [crossB, Bool.or_eq_false_iff, decide_eq_false_iff_not] at this
   omega
 ·intro j j1 j2
  have h1 := hst j j2
  rw [stepD_def] at h1
  have b0 : (j == 0) = false := by rw [beq_eq_false_iff_ne]; omega
  rw [b0] at h1
  simp only [Bool.and_eq_true, Bool.false_or, lessB, decide_eq_true_eq] at h1
  exact h1.2.1

theorem least_tells (a b : Int) : spec_l1Least.f a b = some (min a b) := by
 unfold spec_l1Least.f
 split <;> congr 1 <;> omega
theorem most_tells (a b : Int) : spec_l1Most.f a b = some (max a b) := by
 unfold spec_l1Most.f
 split <;> congr 1 <;> omega

def joinB (n : Int) (l : List DG) (a b : Int) : Bool := decide (b = a + 1) || (decide (a = 0 ∧ b = n - 1) || hasD l a b)
theorem J_iff (n : Int) (l : List DG) (a b : Int) : J n l a b ↔ joinB n l a b = true := by
 unfold J joinB
 simp only [Bool.or_eq_true, decide_eq_true_eq]
def apB (n : Int) (l : List DG) (a b c : Int) : Bool := joinB n l (min c a) (max c a) && joinB n l (min c b) (max c b)

theorem poJoined_rounds (l : List DG) (a b : Int) (hl : l.length ≤ 4611686018427387904) (e : Nat) : ∀ (i k : Nat), i + e = l.length → e < k →
  spec_poJoined.l0 k a b l (l.length : Int) (i : Int) = some ((l.drop i).any fun d => d.f0 == a && d.f1 == b) := by
 induction e with
 | zero =>
  intro i k hi hk
  obtain ⟨k, rfl⟩ : ∃ q, k = q + 1 := ⟨k - 1, by omega⟩
  simp only [spec_poJoined.l0]
  rw [if_neg (by omega), List.drop_of_length_le (by omega)]
  rfl
 | succ e ih =>
  intro i k hi hk
  obtain ⟨k, rfl⟩ : ∃ q, k = q + 1 := ⟨k - 1, by omega⟩
  simp only [spec_poJoined.l0]
  rw [if_pos (by omega), if_pos (by omega), if_pos (by omega), wrap_succ i (by omega), ih (i + 1) k (by omega) (by omega), any_take_step _ l i (by omega)]
  by_cases h1 : (rD l i).f0 = a
  ·by_cases h2 : (rD l i).f1 = b
   ·rw [if_pos h1, if_pos h2]
    simp [h1, h2]
   ·rw [if_pos h1, if_neg h2]
    simp [h1, h2]
  ·rw [if_neg h1]
   simp [h1]
theorem poJoined_tells (n : Int) (l : List DG) (a b : Int) (hn : 3 ≤ n ∧ n ≤ 12) (hl : l.length ≤ 4611686018427387904) (ha : 0 ≤ a) (hab : a < b) (hb : b ≤ n - 1) (k : Nat) (hk : l.length + 1 < k) : spec_poJoined.f k n l a b = some (joinB n l a b) := by
 obtain ⟨k, rfl⟩ : ∃ q, k = q + 1 := ⟨k - 1, by omega⟩
 have w1 : wrap64 (b - a) = b - a := by unfold wrap64; omega
 have w2 : wrap64 (n - 1) = n - 1 := by unfold wrap64; omega
 have hr := poJoined_rounds l a b hl l.length 0 k (by omega) (by omega)
 rw [show ((0 : Nat) : Int) = 0 from rfl, List.drop_zero] at hr
 unfold spec_poJoined.f joinB
 simp only [w1, w2, spec_poJoined.j0, hr]
 by_cases h1 : b - a = 1
 ·rw [if_pos h1, decide_eq_true (show b = a + 1 by omega)]
  rfl
 ·rw [if_neg h1, decide_eq_false (show ¬ b = a + 1 by omega), Bool.false_or]
  by_cases h2 : b - a = n - 1
  ·rw [decide_eq_true (show a = 0 ∧ b = n - 1 by omega), h2]
   simp
  ·rw [decide_eq_false (show ¬ (a = 0 ∧ b = n - 1) by omega), Bool.false_or]
   have : (b - a == n - 1) = false := by simpa using h2
   rw [this]
   rfl

theorem flOther_rounds (n : Int) (l : List DG) (a b p q : Int) (hn : 3 ≤ n ∧ n ≤ 12) (hl : l.length ≤ 4611686018427387904) (ha : 0 ≤ a ∧ a ≤ n - 1) (hb : 0 ≤ b ∧ b ≤ n - 1) (hp : 0 ≤ p) (hpq : p < q) (hq : q ≤ n - 1)
  (h1 : p ≠ a) (h2 : p ≠ b) (h3 : q ≠ a) (h4 : q ≠ b) (hap : ∀ c, 0 ≤ c → c ≤ n - 1 → c ≠ a → c ≠ b → (apB n l a b c = true ↔ c = p ∨ c = q)) (e : Nat) :
  ∀ (c : Int), 0 ≤ c → c + e = n → ∀ k, 3 * e + l.length + 5 < k → spec_flOther.l0 k n l c a b (if c ≤ p then -1 else p) (if c ≤ q then -1 else q) = some (p, q) := by
 induction e with
 | zero =>
  intro c hc he k hk
  obtain ⟨k, rfl⟩ : ∃ z, k = z + 1 := ⟨k - 1, by omega⟩
  simp only [spec_flOther.l0]
  rw [if_neg (by omega), if_neg (by omega), if_neg (by omega)]
 | succ e ih =>
  intro c hc he k hk
  obtain ⟨k, rfl⟩ : ∃ z, k = z + 3 := ⟨k - 3, by omega⟩
  have w : wrap64 (c + 1) = c + 1 := by unfold wrap64; omega
  have hih := ih (c + 1) (by omega) (by omega)
  have skip : ∀ k', 3 * e + l.length + 5 < k' → c ≠ p → c ≠ q → spec_flOther.l0 k' n l (c + 1) a b (if c ≤ p then -1 else p) (if c ≤ q then -1 else q) = some (p, q) := by
   intro k' hk' hcp hcq
   have := hih k' hk'
   by_cases x1 : c ≤ p
   ·rw [if_pos x1]
    rw [if_pos (by omega)] at this
    by_cases x2 : c ≤ q
    ·rw [if_pos x2]
     rw [if_pos (by omega)] at this
     exact this
    ·omega
   ·rw [if_neg x1]
    rw [if_neg (by omega)] at this
    by_cases x2 : c ≤ q
    ·rw [if_pos x2]
     rw [if_pos (by omega)] at this
     exact this
    ·rw [if_neg x2]
     rw [if_neg (by omega)] at this
     exact this
  simp only [spec_flOther.l0]
  rw [if_pos (by omega)]
  by_cases e1 : c = a
  ·rw [if_pos e1]
   simp only [spec_flOther.j1, if_true, w]
   exact skip _ (by omega) (by omega) (by omega)
  ·rw [if_neg e1]
   by_cases e2 : c = b
   ·rw [e2, beq_self_eq_true]
    rw [e2] at skip w
    simp only [spec_flOther.j1, if_true, w]
    exact skip _ (by omega) (by omega) (by omega)
   ·have : (c == b) = false := by simpa using e2
    rw [this]
    have hj1 := poJoined_tells n l (min c a) (max c a) hn hl (by omega) (by omega) (by omega) (k + 1) (by omega)
    have hj2 := poJoined_tells n l (min c b) (max c b) hn hl (by omega) (by omega) (by omega) (k + 1) (by omega)
    have hc2 := hap c hc (by omega) e1 e2
    simp only [spec_flOther.j1, Bool.false_eq_true, if_false, least_tells, most_tells, Option.bind_some, hj1, hj2]
    unfold apB at hc2
    cases b1 : joinB n l (min c a) (max c a)
    ·rw [b1] at hc2
     simp only [Bool.false_and, Bool.false_eq_true, false_iff, not_or] at hc2
     simp only [Bool.false_eq_true, if_false, spec_flOther.j2, if_true, w]
     exact skip _ (by omega) hc2.1 hc2.2
    ·rw [b1] at hc2
     cases b2 : joinB n l (min c b) (max c b)
     ·rw [b2] at hc2
      simp only [Bool.and_false, Bool.false_eq_true, false_iff, not_or] at hc2
      simp only [Bool.not_false, if_true, spec_flOther.j2, w]
      exact skip _ (by omega) hc2.1 hc2.2
     ·rw [b2] at hc2
      simp only [Bool.and_true, true_iff] at hc2
      simp only [Bool.not_true, if_true, spec_flOther.j2, w, Bool.false_eq_true, if_false]
      have := hih k (by omega)
      rcases hc2 with hc2 | hc2
      ·rw [if_pos (by omega), if_pos (by omega)]
       rw [if_neg (by omega), if_pos (by omega)] at this
       rw [hc2] at this ⊢
       exact this
      ·rw [if_neg (show ¬ c ≤ p by omega), if_neg (by omega)]
       rw [if_neg (by omega), if_neg (by omega)] at this
       rw [hc2] at this ⊢
       exact this

theorem Tri.apex2 {n : Int} {l : List DG} (T : Tri n l) (d : DG) (hd : d ∈ l) : ∃ x o, d.f0 < x ∧ x < d.f1 ∧ 0 ≤ o ∧ o ≤ n - 1 ∧ (o < d.f0 ∨ d.f1 < o) ∧
  ∀ c, 0 ≤ c → c ≤ n - 1 → c ≠ d.f0 → c ≠ d.f1 → (apB n l d.f0 d.f1 c = true ↔ c = x ∨ c = o) := by
 obtain ⟨x, o, x1, x2, o1, o2, o3, ⟨jx1, jx2⟩, ⟨jo1, jo2⟩, hu⟩ := T.two d hd
 refine ⟨x, o, x1, x2, o1, o2, o3, fun c c1 c2 c3 c4 => ?_⟩
 unfold apB
 rw [Bool.and_eq_true, ← J_iff, ← J_iff]
 constructor
 ·exact hu c c1 c2 c3 c4
 ·rintro (rfl | rfl)
  ·rw [Int.min_eq_right (by omega), Int.max_eq_left (by omega), Int.min_eq_left (by omega), Int.max_eq_right (by omega)]
   exact ⟨jx1, jx2⟩
  ·exact ⟨jo1, jo2⟩

theorem Tri.small {n : Int} {l : List DG} (T : Tri n l) : l.length ≤ 9 := by
 have := T.len
 have := T.n3
 omega

theorem flOther_tells {n : Int} {l : List DG} (T : Tri n l) (d : DG) (hd : d ∈ l) (x o : Int) (x1 : d.f0 < x) (x2 : x < d.f1) (o1 : 0 ≤ o) (o2 : o ≤ n - 1) (o3 : o < d.f0 ∨ d.f1 < o)
  (hap : ∀ c, 0 ≤ c → c ≤ n - 1 → c ≠ d.f0 → c ≠ d.f1 → (apB n l d.f0 d.f1 c = true ↔ c = x ∨ c = o)) (k : Nat) (hk : 60 < k) : spec_flOther.f k n l d.f0 d.f1 = some (min x o, max x o) := by
 have hn := T.n3
 have hok := T.ok d hd
 have hs := T.small
 have h := flOther_rounds n l d.f0 d.f1 (min x o) (max x o) hn (by omega) (by omega) (by omega) (by omega) (by omega) (by omega) (by omega) (by omega) (by omega) (by omega) (fun c c1 c2 c3 c4 => by
  rw [hap c c1 c2 c3 c4]
  omega) n.toNat 0 (by omega) (by omega) k (by omega)
 rw [if_pos (by omega), if_pos (by omega)] at h
 exact h

theorem contD_rounds (l : List DG) (a b : Int) (hl : l.length ≤ 4611686018427387904) (e : Nat) : ∀ (i k : Nat), i + e = l.length → e < k →
  ∃ r, impl_Diagonal_115.l0 k l (l.length : Int) (i : Int) a b = some r ∧ (r ≥ 0 ↔ ((l.drop i).any fun d => d.f0 == a && d.f1 == b) = true) := by
 induction e with
 | zero =>
  intro i k hi hk
  obtain ⟨k, rfl⟩ : ∃ q, k = q + 1 := ⟨k - 1, by omega⟩
  simp only [impl_Diagonal_115.l0]
  rw [if_neg (by omega), List.drop_of_length_le (by omega)]
  exact ⟨-1, rfl, by simp⟩
 | succ e ih =>
  intro i k hi hk
  obtain ⟨k, rfl⟩ : ∃ q, k = q + 1 := ⟨k - 1, by omega⟩
  obtain ⟨r, hr, hr2⟩ := ih (i + 1) k (by omega) (by omega)
  simp only [impl_Diagonal_115.l0]
  rw [if_pos (by omega), if_pos (by omega), if_pos (by omega), wrap_succ i (by omega), hr, any_take_step _ l i (by omega), BEq.comm (a := a), BEq.comm (a := b)]
  cases hc : ((rD l i).f0 == a && (rD l i).f1 == b) with
  | true => exact ⟨i, rfl, by simp⟩
  | false => exact ⟨r, rfl, by rw [Bool.false_or]; exact hr2⟩
theorem contD_tells (l : List DG) (a b : Int) (hl : l.length ≤ 4611686018427387904) (k : Nat) (hk : l.length < k) : impl_Diagonal_88.f k l a b = some (hasD l a b) := by
 obtain ⟨r, hr, hr2⟩ := contD_rounds l a b hl l.length 0 k (by omega) hk
 unfold impl_Diagonal_88.f impl_Diagonal_115.f
 rw [show ((0 : Nat) : Int) = 0 from rfl] at hr
 rw [hr, Option.bind_some]
 congr 1
 rw [Bool.eq_iff_iff, decide_eq_true_iff, hr2, List.drop_zero]
 rfl

theorem isSide_tells (n : Int) (l : List DG) (a b : Int) (hn : 3 ≤ n ∧ n ≤ 12) (hl : l.length ≤ 4611686018427387904) (ha : 0 ≤ a) (hab : a < b) (hb : b ≤ n - 1) (k : Nat) (hk : l.length < k) : impl_isSide.f k n l a b = some (joinB n l a b) := by
 have m1 : mn a b = a := by unfold mn; rw [if_neg (by omega)]
 have m2 : mx a b = b := by unfold mx; rw [if_pos (by omega)]
 have w1 : wrap64 (a + 1) = a + 1 := by unfold wrap64; omega
 have w2 : wrap64 (n - 1) = n - 1 := by unfold wrap64; omega
 unfold impl_isSide.f joinB
 rw [m1, m2, w1, w2, contD_tells l a b hl k hk]
 simp only [Option.bind_some]
 by_cases h1 : b = a + 1
 ·rw [if_pos h1, decide_eq_true h1]
  rfl
 ·rw [if_neg h1, decide_eq_false h1, Bool.false_or]
  by_cases h2 : a = 0
  ·rw [if_pos h2]
   by_cases h3 : b = n - 1
   ·rw [if_pos h3, decide_eq_true (⟨h2, h3⟩ : a = 0 ∧ b = n - 1)]
    rfl
   ·rw [if_neg h3, decide_eq_false (fun h : a = 0 ∧ b = n - 1 => h3 h.2), Bool.false_or]
  ·rw [if_neg h2, decide_eq_false (fun h : a = 0 ∧ b = n - 1 => h2 h.1), Bool.false_or]

def triB (n : Int) (l : List DG) (a b c : Int) : Bool := joinB n l a b && (joinB n l b c && joinB n l a c)
def T2 (n : Int) (l : List DG) (a b : Nat) (c e : Nat) : List (List Int) := ((List.range' c e).filter fun (c : Nat) => triB n l a b c).map fun (c : Nat) => [(a : Int), (b : Int), (c : Int)]
def T1 (n : Int) (l : List DG) (N a : Nat) (b e : Nat) : List (List Int) := (List.range' b e).flatMap fun (b : Nat) => T2 n l a b (b + 1) (N - (b + 1))
def T0 (n : Int) (l : List DG) (N : Nat) (a e : Nat) : List (List Int) := (List.range' a e).flatMap fun (a : Nat) => T1 n l N a (a + 1) (N - (a + 1))
theorem T2_len (n : Int) (l : List DG) (a b c e : Nat) : (T2 n l a b c e).length ≤ e := by
 unfold T2
 rw [List.length_map]
 exact Nat.le_trans (List.length_filter_le ..) (by rw [List.length_range']; exact Nat.le_refl _)
theorem T1_len (n : Int) (l : List DG) (N a : Nat) (h : N ≤ 12) (e : Nat) : ∀ b, (T1 n l N a b e).length ≤ 12 * e := by
 induction e with
 | zero => intro b; simp [T1]
 | succ e ih =>
  intro b
  have h1 := ih (b + 1)
  have h2 := T2_len n l a b (b + 1) (N - (b + 1))
  unfold T1 at h1 ⊢
  rw [List.range'_succ, List.flatMap_cons, List.length_append]
  omega

theorem tri_l2 (n : Int) (l : List DG) (N a b : Nat) (hN : (N : Int) = n) (hn : 3 ≤ n ∧ n ≤ 12) (hl : l.length ≤ 9) (hab : a < b) (hb : b < N) (x10 : Int) (r : Option (List (List Int))) (e : Nat) :
  ∀ (c : Nat) (acc : List (List Int)) (K : Nat), b < c → c + e = N → acc.length + e ≤ 5000 → (∀ k, K ≤ k → impl_triangles.l1 k n l (acc ++ T2 n l a b c e) (a : Int) ((b : Int) + 1) x10 (a : Int) = r) →
  ∀ k, K + e + 10 < k → impl_triangles.l2 k n l acc (a : Int) (b : Int) (c : Int) x10 (a : Int) = r := by
 induction e with
 | zero =>
  intro c acc K hc he hacc h k hk
  obtain ⟨k, rfl⟩ : ∃ q, k = q + 1 := ⟨k - 1, by omega⟩
  have w : wrap64 ((b : Int) + 1) = (b : Int) + 1 := by unfold wrap64; omega
  simp only [impl_triangles.l2]
  rw [if_neg (by omega), w]
  have := h k (by omega)
  simpa [T2] using this
 | succ e ih =>
  intro c acc K hc he hacc h k hk
  obtain ⟨k, rfl⟩ : ∃ q, k = q + 1 := ⟨k - 1, by omega⟩
  have hl' : l.length ≤ 4611686018427387904 := by omega
  have hlk : l.length < k := by omega
  have a0 : (0 : Int) ≤ (a : Int) := by omega
  have b0 : (0 : Int) ≤ (b : Int) := by omega
  have hab' : (a : Int) < (b : Int) := by omega
  have hbc' : (b : Int) < (c : Int) := by omega
  have hac' : (a : Int) < (c : Int) := by omega
  have hb' : (b : Int) ≤ n - 1 := by omega
  have hc' : (c : Int) ≤ n - 1 := by omega
  have s1 := isSide_tells n l a b hn hl' a0 hab' hb' k hlk
  have s2 := isSide_tells n l b c hn hl' b0 hbc' hc' k hlk
  have s3 := isSide_tells n l a c hn hl' a0 hac' hc' k hlk
  have hT : T2 n l a b c (e + 1) = (if triB n l a b c = true then [[(a : Int), (b : Int), (c : Int)]] else []) ++ T2 n l a b (c + 1) e := by
   unfold T2
   rw [List.range'_succ, List.filter_cons]
   split <;> rfl
  rw [hT] at h
  simp only [impl_triangles.l2]
  rw [if_pos (by omega), s1, s2, s3, show wrap64 ((c : Int) + 1) = ((c + 1 : Nat) : Int) from wrap_succ c (by omega)]
  clear s1 s2 s3
  simp only [Option.bind_some]
  have skip : triB n l a b c = false → impl_triangles.l2 k n l acc (a : Int) (b : Int) ((c + 1 : Nat) : Int) x10 (a : Int) = r := by
   intro hf
   rw [hf] at h
   exact ih (c + 1) acc K (by omega) (by omega) (by omega) (by simpa using h) k (by omega)
  unfold triB at skip h
  cases b1 : joinB n l a b
  ·rw [b1] at skip
   simpa using skip
  ·cases b2 : joinB n l b c
   ·rw [b1, b2] at skip
    simpa using skip
   ·cases b3 : joinB n l a c
    ·rw [b1, b2, b3] at skip
     simpa using skip
    ·rw [b1, b2, b3] at h
     simp only [if_true]
     rw [if_pos (by omega)]
     refine ih (c + 1) _ K (by omega) (by omega) (by rw [List.length_append]; simp; omega) ?_ k (by omega)
     simpa using h

theorem tri_l1 (n : Int) (l : List DG) (N a : Nat) (hN : (N : Int) = n) (hn : 3 ≤ n ∧ n ≤ 12) (hl : l.length ≤ 9) (x10 : Int) (r : Option (List (List Int))) (e : Nat) :
  ∀ (b : Nat) (acc : List (List Int)) (K : Nat), a < b → b + e = N → acc.length + 12 * e ≤ 4000 → (∀ k, K ≤ k → impl_triangles.l0 k n l (acc ++ T1 n l N a b e) x10 ((a : Int) + 1) = r) →
  ∀ k, K + 40 * e + 10 < k → impl_triangles.l1 k n l acc (a : Int) (b : Int) x10 (a : Int) = r := by
 induction e with
 | zero =>
  intro b acc K hb he hacc h k hk
  obtain ⟨k, rfl⟩ : ∃ q, k = q + 1 := ⟨k - 1, by omega⟩
  have w : wrap64 ((a : Int) + 1) = (a : Int) + 1 := by unfold wrap64; omega
  simp only [impl_triangles.l1]
  rw [if_neg (by omega), w]
  have := h k (by omega)
  simpa [T1] using this
 | succ e ih =>
  intro b acc K hb he hacc h k hk
  obtain ⟨k, rfl⟩ : ∃ q, k = q + 1 := ⟨k - 1, by omega⟩
  have w : wrap64 ((b : Int) + 1) = ((b + 1 : Nat) : Int) := by unfold wrap64; omega
  have hT : T1 n l N a b (e + 1) = T2 n l a b (b + 1) (N - (b + 1)) ++ T1 n l N a (b + 1) e := by
   unfold T1
   rw [List.range'_succ, List.flatMap_cons]
  have hlen := T2_len n l a b (b + 1) (N - (b + 1))
  rw [hT, ← List.append_assoc] at h
  simp only [impl_triangles.l1]
  rw [if_pos (by omega), w]
  refine tri_l2 n l N a b hN hn hl hb (by omega) x10 r (N - (b + 1)) (b + 1) acc (K + 40 * e + 11) (by omega) (by omega) (by omega) ?_ k (by omega)
  intro k' hk'
  exact ih (b + 1) _ K (by omega) (by omega) (by rw [List.length_append]; omega) h k' (by omega)

theorem tri_l0 (n : Int) (l : List DG) (N : Nat) (hN : (N : Int) = n) (hn : 3 ≤ n ∧ n ≤ 12) (hl : l.length ≤ 9) (e : Nat) :
  ∀ (a : Nat) (acc : List (List Int)), a + e = N → acc.length + 150 * e ≤ 3000 → ∀ k, 1000 * e + 10 < k → impl_triangles.l0 k n l acc n (a : Int) = some (acc ++ T0 n l N a e) := by
 induction e with
 | zero =>
  intro a acc he hacc k hk
  obtain ⟨k, rfl⟩ : ∃ q, k = q + 1 := ⟨k - 1, by omega⟩
  simp only [impl_triangles.l0]
  rw [if_neg (by omega)]
  simp [T0]
 | succ e ih =>
  intro a acc he hacc k hk
  obtain ⟨k, rfl⟩ : ∃ q, k = q + 1 := ⟨k - 1, by omega⟩
  have w : wrap64 ((a : Int) + 1) = ((a + 1 : Nat) : Int) := by unfold wrap64; omega
  have hT : T0 n l N a (e + 1) = T1 n l N a (a + 1) (N - (a + 1)) ++ T0 n l N (a + 1) e := by
   unfold T0
   rw [List.range'_succ, List.flatMap_cons]
  have hlen := T1_len n l N a (by omega) (N - (a + 1)) (a + 1)
  rw [hT, ← List.append_assoc]
  simp only [impl_triangles.l0]
  rw [if_pos (by omega), w]
  refine tri_l1 n l N a hN hn hl n _ (N - (a + 1)) (a + 1) acc (1000 * e + 11) (by omega) (by omega) (by omega) ?_ k (by omega)
  intro k' hk'
  have := ih (a + 1) (acc ++ T1 n l N a (a + 1) (N - (a + 1))) (by omega) (by rw [List.length_append]; omega) k' (by omega)
  exact this

theorem T0_mem (n : Int) (l : List DG) (N : Nat) (t : List Int) : t ∈ T0 n l N 0 N ↔ ∃ a b c : Nat, a < b ∧ b < c ∧ c < N ∧ triB n l a b c = true ∧ t = [(a : Int), (b : Int), (c : Int)] := by
 unfold T0 T1 T2
 simp only [List.mem_flatMap, List.mem_range'_1, List.mem_map, List.mem_filter]
 constructor
 ·rintro ⟨a, ha, b, hb, c, ⟨hc, h1⟩, h2⟩
  exact ⟨a, b, c, by omega, by omega, by omega, h1, h2.symm⟩
 ·rintro ⟨a, b, c, h1, h2, h3, h4, h5⟩
  exact ⟨a, by omega, b, by omega, c, ⟨by omega, h4⟩, h5.symm⟩

theorem triangles_tells (n : Int) (l : List DG) (hn : 3 ≤ n ∧ n ≤ 12) (hl : l.length ≤ 9) (k : Nat) (hk : 13000 < k) : impl_triangles.f k n l = some (T0 n l n.toNat 0 n.toNat) := by
 have h := tri_l0 n l n.toNat (by omega) hn hl n.toNat 0 [] (by omega) (by simp; omega) k (by omega)
 unfold impl_triangles.f
 exact h

theorem T0_len (n : Int) (l : List DG) (hn : 3 ≤ n ∧ n ≤ 12) (e : Nat) : ∀ a, e ≤ 12 → (T0 n l n.toNat a e).length ≤ 144 * e := by
 induction e with
 | zero => intro a _; simp [T0]
 | succ e ih =>
  intro a h
  have h1 := ih (a + 1) (by omega)
  have h2 := T1_len n l n.toNat a (by omega) (n.toNat - (a + 1)) (a + 1)
  unfold T0 at h1 ⊢
  rw [List.range'_succ, List.flatMap_cons, List.length_append]
  omega

theorem rd_drop (l : List Int) (i : Nat) (h : i < l.length) : l.drop i = rd l (i : Int) :: l.drop (i + 1) := by
 rw [getD_drop l 0 i h]
 unfold rd
 rw [Int.toNat_natCast]
theorem contI_rounds (l : List Int) (v : Int) (hl : l.length ≤ 4611686018427387904) (e : Nat) : ∀ (i k : Nat), i + e = l.length → e < k →
  ∃ r, slices_Index_int_int.l0 k l v (l.length : Int) (i : Int) = some r ∧ (r ≥ 0 ↔ ((l.drop i).any fun z => z == v) = true) := by
 induction e with
 | zero =>
  intro i k hi hk
  obtain ⟨k, rfl⟩ : ∃ q, k = q + 1 := ⟨k - 1, by omega⟩
  simp only [slices_Index_int_int.l0]
  rw [if_neg (by omega), List.drop_of_length_le (by omega)]
  exact ⟨-1, rfl, by simp⟩
 | succ e ih =>
  intro i k hi hk
  obtain ⟨k, rfl⟩ : ∃ q, k = q + 1 := ⟨k - 1, by omega⟩
  obtain ⟨r, hr, hr2⟩ := ih (i + 1) k (by omega) (by omega)
  simp only [slices_Index_int_int.l0]
  rw [if_pos (by omega), if_pos (by omega), if_pos (by omega), wrap_succ i (by omega), hr, rd_drop l i (by omega), List.any_cons]
  by_cases hc : v = rd l (i : Int)
  ·rw [if_pos hc, ← hc]
   exact ⟨i, rfl, by simp⟩
  ·rw [if_neg hc]
   have : (rd l (i : Int) == v) = false := by
    rw [beq_eq_false_iff_ne]
    exact fun h => hc h.symm
   exact ⟨r, rfl, by rw [this, Bool.false_or]; exact hr2⟩
theorem contI_tells (l : List Int) (v : Int) (hl : l.length ≤ 4611686018427387904) (k : Nat) (hk : l.length < k) : slices_Contains_int_int.f k l v = some (l.any fun z => z == v) := by
 obtain ⟨r, hr, hr2⟩ := contI_rounds l v hl l.length 0 k (by omega) hk
 unfold slices_Contains_int_int.f slices_Index_int_int.f
 rw [show ((0 : Nat) : Int) = 0 from rfl] at hr
 rw [hr, Option.bind_some]
 congr 1
 rw [Bool.eq_iff_iff, decide_eq_true_iff, hr2, List.drop_zero]

def stepO (a b : Int) (s : Int × Int) (c : Int) : Int × Int := if c = a ∨ c = b then s else if a ≤ c ∧ c ≤ b then (c, s.2) else (s.1, c)
def stepT (a b : Int) (s : Int × Int) (t : List Int) : Int × Int := if (t.any (fun z => z == a) && t.any fun z => z == b) = true then t.foldl (stepO a b) s else s

theorem otherOf_l1 (ts : List (List Int)) (x16 x17 : Int) (t : List Int) (a b : Int) (ht : t.length ≤ 4611686018427387904) (r : Option (Int × Int)) (e : Nat) : ∀ (i K : Nat) (s : Int × Int), i + e = t.length →
  (∀ k, K ≤ k → impl_otherOf.l0 k ((t.drop i).foldl (stepO a b) s).1 ((t.drop i).foldl (stepO a b) s).2 ts x16 (wrap64 (x17 + 1)) a b = r) → ∀ k, K + 2 * e < k → impl_otherOf.l1 k s.1 s.2 ts x16 x17 t (t.length : Int) (i : Int) a b = r := by
 induction e with
 | zero =>
  intro i K s hi h k hk
  obtain ⟨k, rfl⟩ : ∃ q, k = q + 1 := ⟨k - 1, by omega⟩
  simp only [impl_otherOf.l1]
  rw [if_neg (by omega)]
  rw [List.drop_of_length_le (by omega)] at h
  exact h k (by omega)
 | succ e ih =>
  intro i K s hi h k hk
  obtain ⟨k, rfl⟩ : ∃ q, k = q + 2 := ⟨k - 2, by omega⟩
  rw [rd_drop t i (by omega), List.foldl_cons] at h
  have hih := ih (i + 1) K (stepO a b s (rd t (i : Int))) (by omega) h k (by omega)
  simp only [impl_otherOf.l1]
  rw [if_pos (by omega), if_pos (by omega), if_pos (by omega)]
  simp only [impl_otherOf.j2, wrap_succ i (by omega), within_tells, Option.bind_some, if_true, decide_eq_true_eq]
  by_cases h1 : rd t (i : Int) = a
  ·rw [if_pos h1]
   unfold stepO at hih
   rw [if_pos (.inl h1)] at hih
   exact hih
  ·rw [if_neg h1]
   by_cases h2 : rd t (i : Int) = b
   ·have : (rd t (i : Int) == b) = true := by simpa using h2
    rw [if_pos this]
    unfold stepO at hih
    rw [if_pos (.inr h2)] at hih
    exact hih
   ·have : ¬ ((rd t (i : Int) == b) = true) := by simpa using h2
    rw [if_neg this]
    unfold stepO at hih
    rw [if_neg (by omega)] at hih
    by_cases h3 : a ≤ rd t (i : Int) ∧ rd t (i : Int) ≤ b
    ·rw [if_pos h3]
     rw [if_pos h3] at hih
     exact hih
    ·rw [if_neg h3]
     rw [if_neg h3] at hih
     exact hih

theorem rdL_drop (ts : List (List Int)) (i : Nat) (h : i < ts.length) : ts.drop i = rd_L4 ts (i : Int) :: ts.drop (i + 1) := by
 rw [getD_drop ts [] i h]
 unfold rd_L4
 rw [Int.toNat_natCast]

theorem otherOf_l0 (ts : List (List Int)) (a b : Int) (hts : ts.length ≤ 4611686018427387904) (h3 : ∀ t ∈ ts, t.length = 3) (e : Nat) : ∀ (i : Nat) (s : Int × Int), i + e = ts.length → ∀ k, 8 * e + 4 < k →
  impl_otherOf.l0 k s.1 s.2 ts (ts.length : Int) (i : Int) a b = some (mn ((ts.drop i).foldl (stepT a b) s).1 ((ts.drop i).foldl (stepT a b) s).2, mx ((ts.drop i).foldl (stepT a b) s).1 ((ts.drop i).foldl (stepT a b) s).2) := by
 induction e with
 | zero =>
  intro i s hi k hk
  obtain ⟨k, rfl⟩ : ∃ q, k = q + 1 := ⟨k - 1, by omega⟩
  simp only [impl_otherOf.l0]
  rw [if_neg (by omega), List.drop_of_length_le (by omega)]
  rfl
 | succ e ih =>
  intro i s hi k hk
  obtain ⟨k, rfl⟩ : ∃ q, k = q + 1 := ⟨k - 1, by omega⟩
  have hm : rd_L4 ts (i : Int) ∈ ts := by
   have : rd_L4 ts (i : Int) ∈ ts.drop i := by
    rw [rdL_drop ts i (by omega)]
    exact List.mem_cons_self ..
   exact List.mem_of_mem_drop this
  have hlen := h3 _ hm
  rw [rdL_drop ts i (by omega), List.foldl_cons]
  have c1 := contI_tells (rd_L4 ts (i : Int)) a (by omega) k (by omega)
  have c2 := contI_tells (rd_L4 ts (i : Int)) b (by omega) k (by omega)
  simp only [impl_otherOf.l0]
  rw [if_pos (by omega), if_pos (by omega), if_pos (by omega), c1, c2]
  simp only [Option.bind_some]
  have hih := fun s => ih (i + 1) s (by omega)
  rw [wrap_succ i (by omega)]
  unfold stepT
  cases b1 : (rd_L4 ts (i : Int)).any fun z => z == a
  ·simp only [Bool.false_eq_true, if_false, Bool.false_and]
   exact hih s k (by omega)
  ·cases b2 : (rd_L4 ts (i : Int)).any fun z => z == b
   ·simp only [Bool.false_eq_true, if_false, Bool.and_false, if_true]
    exact hih s k (by omega)
   ·simp only [if_true, Bool.and_self]
    have h1 := otherOf_l1 ts (ts.length : Int) (i : Int) (rd_L4 ts (i : Int)) a b (by omega) (some (mn ((ts.drop (i + 1)).foldl (stepT a b) ((rd_L4 ts (i : Int)).foldl (stepO a b) s)).1 ((ts.drop (i + 1)).foldl (stepT a b) ((rd_L4 ts (i : Int)).foldl (stepO a b) s)).2, mx ((ts.drop (i + 1)).foldl (stepT a b) ((rd_L4 ts (i : Int)).foldl (stepO a b) s)).1 ((ts.drop (i + 1)).foldl (stepT a b) ((rd_L4 ts (i : Int)).foldl (stepO a b) s)).2)) 3 0 (8 * e + 5) s (by omega) (by
     intro k' hk'
     rw [wrap_succ i (by omega), List.drop_zero]
     exact hih _ k' (by omega)) k (by omega)
    exact h1

/-- Each list changes nothing, or sets the one place, or sets the other. -/
theorem fold_sets (f : Int × Int → List Int → Int × Int) (x o : Int) : ∀ (ts : List (List Int)) (s : Int × Int), (∀ t ∈ ts, (∀ s, f s t = s) ∨ (∀ s, f s t = (x, s.2)) ∨ (∀ s, f s t = (s.1, o))) →
  ((s.1 = x ∨ ∃ t ∈ ts, ∀ s, f s t = (x, s.2)) → (ts.foldl f s).1 = x) ∧ ((s.2 = o ∨ ∃ t ∈ ts, ∀ s, f s t = (s.1, o)) → (ts.foldl f s).2 = o)
 | [], s, _ => ⟨fun h => by simpa using h, fun h => by simpa using h⟩
 | t :: ts, s, h => by
  obtain ⟨i1, i2⟩ := fold_sets f x o ts (f s t) (fun u hu => h u (List.mem_cons_of_mem _ hu))
  have ht := h t (List.mem_cons_self ..)
  rw [List.foldl_cons]
  constructor
  ·intro h1
   apply i1
   rcases h1 with h1 | ⟨u, hu, hu2⟩
   ·left
    rcases ht with e | e | e <;> rw [e s]
    ·exact h1
    ·exact h1
   ·rcases List.mem_cons.1 hu with e | e
    ·left
     rw [← e, hu2 s]
    ·exact .inr ⟨u, e, hu2⟩
  ·intro h1
   apply i2
   rcases h1 with h1 | ⟨u, hu, hu2⟩
   ·left
    rcases ht with e | e | e <;> rw [e s]
    ·exact h1
    ·exact h1
   ·rcases List.mem_cons.1 hu with e | e
    ·left
     rw [← e, hu2 s]
    ·exact .inr ⟨u, e, hu2⟩

theorem otherOf_tells {n : Int} {l : List DG} (T : Tri n l) (d : DG) (hd : d ∈ l) (x o : Int) (x1 : d.f0 < x) (x2 : x < d.f1) (o1 : 0 ≤ o) (o2 : o ≤ n - 1) (o3 : o < d.f0 ∨ d.f1 < o)
  (hap : ∀ c, 0 ≤ c → c ≤ n - 1 → c ≠ d.f0 → c ≠ d.f1 → (apB n l d.f0 d.f1 c = true ↔ c = x ∨ c = o)) (k : Nat) (hk : 20000 < k) : impl_otherOf.f k n l d.f0 d.f1 = some (min x o, max x o) := by
 have hn := T.n3
 have hok := T.ok d hd
 have hs := T.small
 unfold impl_otherOf.f
 rw [triangles_tells n l hn hs k (by omega), Option.bind_some]
 have hlen := T0_len n l hn n.toNat 0 (by omega)
 have h3 : ∀ t ∈ T0 n l n.toNat 0 n.toNat, t.length = 3 := by
  intro t ht
  obtain ⟨a, b, c, _, _, _, _, e⟩ := (T0_mem n l n.toNat t).1 ht
  rw [e]
  rfl
 have h := otherOf_l0 (T0 n l n.toNat 0 n.toNat) d.f0 d.f1 (by omega) h3 _ 0 (-1, -1) (Nat.zero_add _) k (by omega)
 rw [show ((0 : Nat) : Int) = 0 from rfl, List.drop_zero] at h
 rw [h]
 have hJd : joinB n l d.f0 d.f1 = true := (J_iff n l d.f0 d.f1).1 (.inr (.inr (hasD_of hd)))
 have hx := (hap x (by omega) (by omega) (by omega) (by omega)).2 (.inl rfl)
 have ho := (hap o o1 o2 (by omega) (by omega)).2 (.inr rfl)
 unfold apB at hx ho
 rw [Bool.and_eq_true] at hx ho
 rw [Int.min_eq_right (by omega), Int.max_eq_left (by omega), Int.min_eq_left (by omega), Int.max_eq_right (by omega)] at hx
 have key : ∀ t ∈ T0 n l n.toNat 0 n.toNat, (∀ s, stepT d.f0 d.f1 s t = s) ∨ (∀ s, stepT d.f0 d.f1 s t = (x, s.2)) ∨ (∀ s, stepT d.f0 d.f1 s t = (s.1, o)) := by
  intro t ht
  obtain ⟨a, b, c, hab, hbc, hc, htr, e⟩ := (T0_mem n l n.toNat t).1 ht
  unfold triB at htr
  rw [Bool.and_eq_true, Bool.and_eq_true] at htr
  obtain ⟨j1, j2, j3⟩ := htr
  by_cases hin : (t.any (fun z => z == d.f0) && t.any fun z => z == d.f1) = true
  ·right
   rw [e] at hin
   simp only [List.any_cons, List.any_nil, Bool.or_false, Bool.and_eq_true, Bool.or_eq_true, beq_iff_eq] at hin
   have third : ∀ v : Int, 0 ≤ v → v ≤ n - 1 → v ≠ d.f0 → v ≠ d.f1 → apB n l d.f0 d.f1 v = true → (∀ s, t.foldl (stepO d.f0 d.f1) s = stepO d.f0 d.f1 s v) → (∀ s, stepT d.f0 d.f1 s t = (x, s.2)) ∨ (∀ s, stepT d.f0 d.f1 s t = (s.1, o)) := by
    intro v v1 v2 v3 v4 hv hf
    have hst : ∀ s, stepT d.f0 d.f1 s t = stepO d.f0 d.f1 s v := by
     intro s
     unfold stepT
     rw [if_pos, hf s]
     rw [e]
     simp only [List.any_cons, List.any_nil, Bool.or_false, Bool.and_eq_true, Bool.or_eq_true, beq_iff_eq]
     exact hin
    rcases (hap v v1 v2 v3 v4).1 hv with hv | hv
    ·left
     intro s
     rw [hst s]
     unfold stepO
     rw [if_neg (by omega), if_pos (by omega), hv]
    ·right
     intro s
     rw [hst s]
     unfold stepO
     rw [if_neg (by omega), if_neg (by omega), hv]
   by_cases q1 : (a : Int) = d.f0
   ·by_cases q2 : (b : Int) = d.f1
    ·refine third c (by omega) (by omega) (by omega) (by omega) ?_ ?_
     ·unfold apB
      rw [Int.min_eq_right (by omega), Int.max_eq_left (by omega), Int.min_eq_right (by omega), Int.max_eq_left (by omega), ← q1, ← q2, j2, j3]
      rfl
     ·intro s
      rw [e]
      simp only [List.foldl_cons, List.foldl_nil]
      have e1 : stepO d.f0 d.f1 s (a : Int) = s := by unfold stepO; rw [if_pos (.inl q1)]
      have e2 : stepO d.f0 d.f1 s (b : Int) = s := by unfold stepO; rw [if_pos (.inr q2)]
      rw [e1, e2]
    ·have q3 : (c : Int) = d.f1 := by omega
     refine third b (by omega) (by omega) (by omega) (by omega) ?_ ?_
     ·unfold apB
      rw [Int.min_eq_right (by omega), Int.max_eq_left (by omega), Int.min_eq_left (by omega), Int.max_eq_right (by omega), ← q1, ← q3, j1, j2]
      rfl
     ·intro s
      rw [e]
      simp only [List.foldl_cons, List.foldl_nil]
      have e1 : stepO d.f0 d.f1 s (a : Int) = s := by unfold stepO; rw [if_pos (.inl q1)]
      have e2 : ∀ s, stepO d.f0 d.f1 s (c : Int) = s := by intro s; unfold stepO; rw [if_pos (.inr q3)]
      rw [e1, e2]
   ·have q2 : (b : Int) = d.f0 := by omega
    have q3 : (c : Int) = d.f1 := by omega
    refine third a (by omega) (by omega) (by omega) (by omega) ?_ ?_
    ·unfold apB
     rw [Int.min_eq_left (by omega), Int.max_eq_right (by omega), Int.min_eq_left (by omega), Int.max_eq_right (by omega), ← q2, ← q3, j1, j3]
     rfl
    ·intro s
     rw [e]
     simp only [List.foldl_cons, List.foldl_nil]
     have e1 : ∀ s, stepO d.f0 d.f1 s (b : Int) = s := by intro s; unfold stepO; rw [if_pos (.inl q2)]
     have e2 : ∀ s, stepO d.f0 d.f1 s (c : Int) = s := by intro s; unfold stepO; rw [if_pos (.inr q3)]
     rw [e1, e2]
  ·left
   intro s
   unfold stepT
   rw [if_neg hin]
 obtain ⟨f1, f2⟩ := fold_sets (stepT d.f0 d.f1) x o (T0 n l n.toNat 0 n.toNat) (-1, -1) key
 have hax : ∃ t ∈ T0 n l n.toNat 0 n.toNat, ∀ s, stepT d.f0 d.f1 s t = (x, s.2) := by
  refine ⟨[d.f0, x, d.f1], (T0_mem n l n.toNat _).2 ⟨d.f0.toNat, x.toNat, d.f1.toNat, by omega, by omega, by omega, ?_, ?_⟩, ?_⟩
  ·unfold triB
   rw [Int.toNat_of_nonneg (by omega), Int.toNat_of_nonneg (by omega), Int.toNat_of_nonneg (by omega), hx.1, hx.2, hJd]
   rfl
  ·rw [Int.toNat_of_nonneg (by omega), Int.toNat_of_nonneg (by omega), Int.toNat_of_nonneg (by omega)]
  ·intro s
   unfold stepT
   rw [if_pos (by simp)]
   simp only [List.foldl_cons, List.foldl_nil]
   have e1 : stepO d.f0 d.f1 s d.f0 = s := by unfold stepO; rw [if_pos (.inl rfl)]
   have e2 : ∀ s, stepO d.f0 d.f1 s d.f1 = s := by intro s; unfold stepO; rw [if_pos (.inr rfl)]
   rw [e1, e2]
   unfold stepO
   rw [if_neg (by omega), if_pos (by omega)]
 have hao : ∃ t ∈ T0 n l n.toNat 0 n.toNat, ∀ s, stepT d.f0 d.f1 s t = (s.1, o) := by
  rcases o3 with o3 | o3
  ·rw [Int.min_eq_left (by omega), Int.max_eq_right (by omega), Int.min_eq_left (by omega), Int.max_eq_right (by omega)] at ho
   refine ⟨[o, d.f0, d.f1], (T0_mem n l n.toNat _).2 ⟨o.toNat, d.f0.toNat, d.f1.toNat, by omega, by omega, by omega, ?_, ?_⟩, ?_⟩
   ·unfold triB
    rw [Int.toNat_of_nonneg (by omega), Int.toNat_of_nonneg (by omega), Int.toNat_of_nonneg (by omega), ho.1, ho.2, hJd]
    rfl
   ·rw [Int.toNat_of_nonneg (by omega), Int.toNat_of_nonneg (by omega), Int.toNat_of_nonneg (by omega)]
   ·intro s
    unfold stepT
    rw [if_pos (by simp)]
    simp only [List.foldl_cons, List.foldl_nil]
    have e1 : ∀ s, stepO d.f0 d.f1 s d.f0 = s := by intro s; unfold stepO; rw [if_pos (.inl rfl)]
    have e2 : ∀ s, stepO d.f0 d.f1 s d.f1 = s := by intro s; unfold stepO; rw [if_pos (.inr rfl)]
    rw [e1, e2]
    unfold stepO
    rw [if_neg (by omega), if_neg (by omega)]
  ·rw [Int.min_eq_right (by omega), Int.max_eq_left (by omega), Int.min_eq_right (by omega), Int.max_eq_left (by omega)] at ho
   refine ⟨[d.f0, d.f1, o], (T0_mem n l n.toNat _).2 ⟨d.f0.toNat, d.f1.toNat, o.toNat, by omega, by omega, by omega, ?_, ?_⟩, ?_⟩
   ·unfold triB
    rw [Int.toNat_of_nonneg (by omega), Int.toNat_of_nonneg (by omega), Int.toNat_of_nonneg (by omega), ho.1, ho.2, hJd]
    rfl
   ·rw [Int.toNat_of_nonneg (by omega), Int.toNat_of_nonneg (by omega), Int.toNat_of_nonneg (by omega)]
   ·intro s
    unfold stepT
    rw [if_pos (by simp)]
    simp only [List.foldl_cons, List.foldl_nil]
    have e1 : ∀ s, stepO d.f0 d.f1 s d.f0 = s := by intro s; unfold stepO; rw [if_pos (.inl rfl)]
    have e2 : ∀ s, stepO d.f0 d.f1 s d.f1 = s := by intro s; unfold stepO; rw [if_pos (.inr rfl)]
    rw [e1, e2]
    unfold stepO
    rw [if_neg (by omega), if_neg (by omega)]
 have g1 := f1 (.inr hax)
 have g2 := f2 (.inr hao)
 rw [g1, g2]
 congr 1
 unfold mn mx
 ext <;> simp only <;> split <;> omega

def ltD (x y : DG) : Prop := x.f0 < y.f0 ∨ (x.f0 = y.f0 ∧ x.f1 < y.f1)
def leD (x y : DG) : Prop := x.f0 < y.f0 ∨ (x.f0 = y.f0 ∧ x.f1 ≤ y.f1)
theorem leD_antisymm {x y : DG} (h1 : leD x y) (h2 : leD y x) : x = y := by
 obtain ⟨a, b⟩ := x
 obtain ⟨c, d⟩ := y
 unfold leD at h1 h2
 simp only at h1 h2
 have e1 : a = c := by omega
 have e2 : b = d := by omega
 rw [e1, e2]
theorem sorted_unique : ∀ {l m : List DG}, l.Perm m → l.Pairwise leD → m.Pairwise leD → l = m
 | [], m, h, _, _ => (List.Perm.nil_eq h)
 | x :: l, [], h, _, _ => by have := h.length_eq; simp at this
 | x :: l, y :: m, h, h1, h2 => by
  obtain ⟨a1, a2⟩ := List.pairwise_cons.1 h1
  obtain ⟨b1, b2⟩ := List.pairwise_cons.1 h2
  have e : x = y := by
   have hx : x ∈ y :: m := h.subset (List.mem_cons_self ..)
   have hy : y ∈ x :: l := h.symm.subset (List.mem_cons_self ..)
   rcases List.mem_cons.1 hx with hx | hx
   ·exact hx
   ·rcases List.mem_cons.1 hy with hy | hy
    ·exact hy.symm
    ·exact leD_antisymm (a1 y hy) (b1 x hx)
  rw [e] at h ⊢
  rw [sorted_unique (List.Perm.cons_inv h) a2 b2]
theorem sorted_ins {A B : List DG} {d : DG} (h : (A ++ B).Pairwise leD) (hA : ∀ x ∈ A, leD x d) (hB : ∀ x ∈ B, leD d x) : (A ++ d :: B).Pairwise leD := by
 rw [List.pairwise_append] at h ⊢
 obtain ⟨h1, h2, h3⟩ := h
 refine ⟨h1, List.pairwise_cons.2 ⟨hB, h2⟩, fun x hx y hy => ?_⟩
 rcases List.mem_cons.1 hy with e | e
 ·rw [e]
  exact hA x hx
 ·exact h3 x hx y e
theorem leD_trans {x y z : DG} (h1 : leD x y) (h2 : leD y z) : leD x z := by
 unfold leD at *
 omega
theorem rT_mid (A : List DG) (d : DG) (R : List DG) (i : Int) (hi : i = (A.length : Int)) : rd_T36 (A ++ d :: R) i = d := by
 unfold rd_T36
 rw [hi, Int.toNat_natCast, List.getD_eq_getElem?_getD]
 simp
/-- The reference's place for one: behind all that are less. -/
theorem ps_l1 (d : DG) (x8 : List DG) (x9 x10 : Int) (e : Nat) : ∀ (A B : List DG) (k : Nat), B.length = e → A.length + B.length ≤ 1000 → (A ++ B).Pairwise leD → (∀ x ∈ A, leD x d) → e + 2 < k →
  ∃ S k', k ≤ k' + e + 1 ∧ S.Pairwise leD ∧ S.Perm (d :: (A ++ B)) ∧ spec_poSorted.l1 k (A ++ B) (A.length : Int) x8 x9 x10 d.f0 d.f1 = spec_poSorted.l0 k' S x8 x9 (wrap64 (x10 + 1)) := by
 induction e with
 | zero =>
  intro A B k hB hl hs hA hk
  obtain ⟨k, rfl⟩ : ∃ q, k = q + 1 := ⟨k - 1, by omega⟩
  have : B = [] := List.length_eq_zero_iff.1 hB
  subst this
  rw [List.append_nil] at hs ⊢
  refine ⟨A ++ [d], k, by omega, sorted_ins (by simpa using hs) hA (by simp), by simpa using (List.perm_append_comm (l₁ := A) (l₂ := [d])), ?_⟩
  simp only [spec_poSorted.l1, Int.toNat_natCast, Option.bind_some, List.nil_append, List.take_length, List.drop_length, List.length_append, List.length_nil, List.length_singleton, List.append_nil]
  rw [if_neg (by omega), if_pos (by omega), if_pos (by omega), if_pos (by omega), if_pos (by omega), if_pos (by omega)]
 | succ e ih =>
  intro A B k hB hl hs hA hk
  obtain ⟨k, rfl⟩ : ∃ q, k = q + 1 := ⟨k - 1, by omega⟩
  cases B with
  | nil => simp at hB
  | cons z B =>
   rw [List.length_cons] at hB hl
   have w : wrap64 ((A.length : Int) + 1) = ((A ++ [z]).length : Int) := by
    rw [List.length_append, List.length_singleton]
    unfold wrap64
    omega
   have r1 : rd_T36 (A ++ z :: B) (A.length : Int) = z := rT_mid _ _ _ _ rfl
   have hlen : (A ++ z :: B).length = A.length + (B.length + 1) := by simp
   simp only [spec_poSorted.l1]
   rw [if_pos (by rw [hlen]; omega), if_pos (by omega), r1, poLess_tells, Option.bind_some, w]
   cases hc : lessB z.f0 z.f1 d.f0 d.f1
   ·rw [if_neg (by simp)]
    have hdz : leD d z := by
     simp only [lessB, decide_eq_false_iff_not] at hc
     unfold leD
     omega
    refine ⟨A ++ d :: z :: B, k, by omega, sorted_ins hs hA ?_, List.perm_middle, ?_⟩
    ·intro x hx
     rcases List.mem_cons.1 hx with e | e
     ·rw [e]
      exact hdz
     ·exact leD_trans hdz ((List.pairwise_cons.1 (List.pairwise_append.1 hs).2.1).1 x e)
    ·have t1 : (A ++ z :: B).take A.length = A := by simp
     have t2 : (A ++ z :: B).drop A.length = z :: B := by simp
     simp only [Int.toNat_natCast, Option.bind_some, List.nil_append, t1, t2, List.length_append, List.length_nil, List.length_singleton, List.length_cons]
     rw [if_pos (by omega), if_pos (by omega), if_pos (by omega), if_pos (by omega)]
     simp
   ·rw [if_pos rfl]
    have hzd : leD z d := by
     simp only [lessB, decide_eq_true_eq] at hc
     unfold leD
     omega
    have ea : A ++ z :: B = (A ++ [z]) ++ B := by simp
    rw [ea] at hs ⊢
    obtain ⟨S, k', h1, h2, h3, h4⟩ := ih (A ++ [z]) B k (by omega) (by rw [List.length_append, List.length_singleton]; omega) hs (by
     intro x hx
     rcases List.mem_append.1 hx with e | e
     ·exact hA x e
     ·rw [List.mem_singleton] at e
      rw [e]
      exact hzd) (by omega)
    exact ⟨S, k', by omega, h2, h3, h4⟩

theorem ps_l0 (x8 : List DG) (hx : x8.length ≤ 100) (e : Nat) : ∀ (i : Nat) (S : List DG) (k : Nat), i + e = x8.length → S.length = i → S.Pairwise leD → S.Perm (x8.take i) → 110 * e + 10 < k →
  ∃ r, spec_poSorted.l0 k S x8 (x8.length : Int) (i : Int) = some r ∧ r.Pairwise leD ∧ r.Perm x8 := by
 induction e with
 | zero =>
  intro i S k hi hS hs hp hk
  obtain ⟨k, rfl⟩ : ∃ q, k = q + 1 := ⟨k - 1, by omega⟩
  refine ⟨S, ?_, hs, ?_⟩
  ·simp only [spec_poSorted.l0]
   rw [if_neg (by omega)]
  ·rwa [List.take_of_length_le (by omega)] at hp
 | succ e ih =>
  intro i S k hi hS hs hp hk
  obtain ⟨k, rfl⟩ : ∃ q, k = q + 1 := ⟨k - 1, by omega⟩
  obtain ⟨S', k', h1, h2, h3, h4⟩ := ps_l1 (rD x8 i) x8 (x8.length : Int) (i : Int) S.length [] S k rfl (by simp; omega) (by simpa using hs) (by simp) (by omega)
  rw [wrap_succ i (by omega)] at h4
  have hlen : S'.length = i + 1 := by rw [h3.length_eq]; simp; omega
  have hp' : S'.Perm (x8.take (i + 1)) := by
   refine h3.trans ?_
   have e1 : x8.take (i + 1) = x8.take i ++ [rD x8 i] := by
    rw [List.take_succ_eq_append_getElem (by omega)]
    congr 2
    unfold rD rd_T36
    rw [Int.toNat_natCast, List.getD_eq_getElem?_getD, List.getElem?_eq_getElem (by omega)]
    rfl
   rw [e1, List.nil_append]
   exact (List.Perm.cons _ hp).trans (List.perm_append_comm (l₁ := [rD x8 i]))
  obtain ⟨r, g1, g2, g3⟩ := ih (i + 1) S' k' (by omega) hlen h2 hp' (by omega)
  refine ⟨r, ?_, g2, g3⟩
  simp only [spec_poSorted.l0]
  rw [if_pos (by omega), if_pos (by omega), if_pos (by omega)]
  rw [← g1, ← h4]
  rfl

theorem poSorted_tells (l : List DG) (h : l.length ≤ 100) (k : Nat) (hk : 11010 < k) : ∃ r, spec_poSorted.f k l = some r ∧ r.Pairwise leD ∧ r.Perm l :=
 ps_l0 l h l.length 0 [] k (by omega) rfl List.Pairwise.nil (by simp) (by omega)

theorem cmpD_neg (a b c d : Int) : cmpD a b c d < 0 ↔ lessB a b c d = true := by
 have := cmpD_nonneg a b c d
 cases h : lessB a b c d
 ·rw [h] at this
  simp only [true_iff, iff_true] at this
  simp only [Bool.false_eq_true, iff_false]
  omega
 ·rw [h] at this
  simp only [Bool.true_eq_false, iff_false] at this
  simp only [iff_true]
  omega
theorem swap_set (A : List DG) (z d : DG) (R : List DG) : ((A ++ z :: d :: R).set (A.length + 1) z).set A.length d = A ++ d :: z :: R := by
 induction A with
 | nil => rfl
 | cons x A ih => simpa using ih

theorem ins_l1 (n : Int) (d : DG) (C : List DG) (m : Nat) : ∀ (A B : List DG) (k : Nat) (i : Nat), A.length = m → (A ++ B).Pairwise leD → (∀ x ∈ B, leD d x) → i = A.length + B.length → i ≤ 1000 → m + 8 < k →
  ∃ S k', k ≤ k' + m + 1 ∧ S.Pairwise leD ∧ S.Perm (A ++ d :: B) ∧ impl_Diagonal_126_s3.l1 k (A ++ d :: (B ++ C)) 0 n (i : Int) (m : Int) = impl_Diagonal_126_s3.l0 k' (S ++ C) 0 n ((i : Int) + 1) := by
 induction m with
 | zero =>
  intro A B k i hA hs hB hi hi2 hk
  obtain ⟨k, rfl⟩ : ∃ q, k = q + 1 := ⟨k - 1, by omega⟩
  have : A = [] := List.length_eq_zero_iff.1 hA
  subst this
  have w : wrap64 ((i : Int) + 1) = (i : Int) + 1 := by unfold wrap64; omega
  refine ⟨d :: B, k, by omega, sorted_ins hs (by simp) hB, List.Perm.refl _, ?_⟩
  simp only [impl_Diagonal_126_s3.l1]
  rw [if_neg (by omega), w]
  rfl
 | succ m ih =>
  intro A B k i hA hs hB hi hi2 hk
  obtain ⟨k, rfl⟩ : ∃ q, k = q + 1 := ⟨k - 1, by omega⟩
  rcases List.eq_nil_or_concat A with e | ⟨A', z, e⟩
  ·subst e
   simp at hA
  ·rw [List.concat_eq_append] at e
   subst e
   rw [List.length_append, List.length_singleton] at hA hi
   have w0 : wrap64 ((i : Int) + 1) = (i : Int) + 1 := by unfold wrap64; omega
   have w1 : wrap64 (((m + 1 : Nat) : Int) - 1) = (m : Int) := by unfold wrap64; omega
   have el : A' ++ [z] ++ d :: (B ++ C) = A' ++ z :: d :: (B ++ C) := by simp
   have r1 : rd_T36 (A' ++ z :: d :: (B ++ C)) ((m + 1 : Nat) : Int) = d := by
    rw [← el]
    exact rT_mid _ _ _ _ (by rw [List.length_append, List.length_singleton]; omega)
   have r2 : rd_T36 (A' ++ z :: d :: (B ++ C)) (m : Int) = z := rT_mid _ _ _ _ (by omega)
   have hlen : (A' ++ z :: d :: (B ++ C)).length = A'.length + (B.length + C.length + 2) := by simp
   rw [el]
   simp only [impl_Diagonal_126_s3.l1]
   rw [if_pos (by omega), if_pos (by omega), if_pos (by rw [hlen]; omega), w1, if_pos (by omega), if_pos (by rw [hlen]; omega), r1, r2, compareDiagonals_tells _ _ _ _ k (by omega), Option.bind_some, w0]
   by_cases hc : cmpD d.f0 d.f1 z.f0 z.f1 < 0
   ·rw [if_pos hc]
    have hlt := (cmpD_neg _ _ _ _).1 hc
    simp only [lessB, decide_eq_true_eq] at hlt
    have hsw : ((A' ++ z :: d :: (B ++ C)).set ((m + 1 : Nat) : Int).toNat ⟨z.f0, z.f1⟩).set (m : Int).toNat ⟨d.f0, d.f1⟩ = A' ++ d :: ((z :: B) ++ C) := by
     rw [Int.toNat_natCast, Int.toNat_natCast, show m = A'.length by omega]
     exact swap_set A' z d (B ++ C)
    rw [hsw]
    rw [List.append_assoc] at hs
    obtain ⟨S, k', h1, h2, h3, h4⟩ := ih A' (z :: B) k i (by omega) (by simpa using hs) (by
     intro x hx
     have hdz : leD d z := by unfold leD; omega
     rcases List.mem_cons.1 hx with e | e
     ·rw [e]
      exact hdz
     ·exact hB x e) (by simp; omega) hi2 (by omega)
    refine ⟨S, k', by omega, h2, h3.trans ?_, h4⟩
    have : (A' ++ [z] ++ d :: B) = A' ++ z :: d :: B := by simp
    rw [this]
    exact List.Perm.append_left A' (List.Perm.swap z d B)
   ·rw [if_neg hc]
    have hzd : leD z d := by
     have := mt (cmpD_neg _ _ _ _).2 hc
     simp only [lessB, decide_eq_true_eq] at this
     unfold leD
     omega
    refine ⟨A' ++ [z] ++ d :: B, k, by omega, ?_, List.Perm.refl _, ?_⟩
    ·refine sorted_ins hs (fun x hx => ?_) hB
     rcases List.mem_append.1 hx with e | e
     ·have h5 := (List.pairwise_append.1 (List.pairwise_append.1 hs).1).2.2 x e z (by simp)
      exact leD_trans h5 hzd
     ·rw [List.mem_singleton] at e
      rw [e]
      exact hzd
    ·simp

theorem ins_l0 (n : Nat) (hn : n ≤ 12) (C : List DG) : ∀ (S : List DG) (k : Nat), S.Pairwise leD → 0 < S.length → S.length + C.length = n → 25 * C.length + 25 < k →
  ∃ r, impl_Diagonal_126_s3.l0 k (S ++ C) 0 (n : Int) (S.length : Int) = some r ∧ r.Pairwise leD ∧ r.Perm (S ++ C) := by
 induction C with
 | nil =>
  intro S k hs h0 hl hk
  obtain ⟨k, rfl⟩ : ∃ q, k = q + 1 := ⟨k - 1, by omega⟩
  refine ⟨S, ?_, hs, by simp⟩
  simp only [impl_Diagonal_126_s3.l0, List.append_nil]
  rw [if_neg (by simp at hl; omega)]
 | cons d C ih =>
  intro S k hs h0 hl hk
  rw [List.length_cons] at hl hk
  obtain ⟨k, rfl⟩ : ∃ q, k = q + 1 := ⟨k - 1, by omega⟩
  obtain ⟨S', k', h1, h2, h3, h4⟩ := ins_l1 (n : Int) d C S.length S [] k S.length rfl (by simpa using hs) (by simp) (by simp) (by omega) (by omega)
  have hlen : S'.length = S.length + 1 := by rw [h3.length_eq]; simp
  obtain ⟨r, g1, g2, g3⟩ := ih S' k' h2 (by omega) (by omega) (by omega)
  refine ⟨r, ?_, g2, g3.trans ?_⟩
  ·simp only [impl_Diagonal_126_s3.l0]
   rw [if_pos (by omega)]
   rw [show (S'.length : Int) = (S.length : Int) + 1 by omega] at g1
   rw [← g1, ← h4]
   simp
  ·have := List.Perm.append_right C h3
   simpa using this

theorem len12 (k : Nat) (L : Nat) (h : L ≤ 12) : ∃ r, bits_Len.f (k + 1) (IntKind.u64.wrap (L : Int)) = some r := by
 have : L = 0 ∨ L = 1 ∨ L = 2 ∨ L = 3 ∨ L = 4 ∨ L = 5 ∨ L = 6 ∨ L = 7 ∨ L = 8 ∨ L = 9 ∨ L = 10 ∨ L = 11 ∨ L = 12 := by omega
 rcases this with rfl | rfl | rfl | rfl | rfl | rfl | rfl | rfl | rfl | rfl | rfl | rfl | rfl <;> exact ⟨_, rfl⟩

theorem sortFunc_tells (l : List DG) (h : l.length ≤ 12) (k : Nat) (hk : 400 < k) : ∃ r, impl_Diagonal_114_s4.f k l = some r ∧ r.Pairwise leD ∧ r.Perm l := by
 obtain ⟨k, rfl⟩ : ∃ q, k = q + 1 := ⟨k - 1, by omega⟩
 obtain ⟨q, hq⟩ := len12 k l.length h
 have w : wrap64 (0 + 1) = 1 := by unfold wrap64; omega
 unfold impl_Diagonal_114_s4.f impl_Diagonal_123.f
 rw [hq]
 simp only [Option.bind_some]
 rw [if_pos (by omega)]
 unfold impl_Diagonal_126_s3.f
 rw [w]
 cases l with
 | nil =>
  refine ⟨[], ?_, List.Pairwise.nil, List.Perm.refl _⟩
  rfl
 | cons d C =>
  obtain ⟨r, g1, g2, g3⟩ := ins_l0 (C.length + 1) h C [d] (k + 1) (by simp) (by simp) (by simp; omega) (by simp at h; omega)
  refine ⟨r, ?_, g2, g3⟩
  have e : impl_Diagonal_126_s3.l0 (k + 1) (d :: C) 0 ((d :: C).length : Int) 1 = some r := g1
  rw [e]
  rfl


theorem make_rounds (n : Int) (l : List DG) (a b : Int) (hl : l.length ≤ 1000) (e : Nat) : ∀ (i k : Nat) (acc : List DG), i + e = l.length → acc.length ≤ i → e < k →
  spec_flMake.l0 k n l acc l (l.length : Int) (i : Int) a b = (spec_flOther.f (k - e - 1) n l a b).bind fun bt => (spec_poSorted.f (k - e - 1) ((acc ++ (l.drop i).filter fun x => !(x.f0 == a) || !(x.f1 == b)) ++ [⟨bt.1, bt.2⟩])).bind fun t => some t := by
 induction e with
 | zero =>
  intro i k acc hi hacc hk
  obtain ⟨k, rfl⟩ : ∃ q, k = q + 1 := ⟨k - 1, by omega⟩
  simp only [spec_flMake.l0]
  rw [if_neg (by omega), List.drop_of_length_le (by omega), List.filter_nil, List.append_nil]
  have hlt : acc.length < 8796093022208 := by omega
  simp only [hlt, if_true]
  rfl
 | succ e ih =>
  intro i k acc hi hacc hk
  obtain ⟨k, rfl⟩ : ∃ q, k = q + 1 := ⟨k - 1, by omega⟩
  have hd := rD_drop l i (by omega)
  simp only [spec_flMake.l0]
  rw [if_pos (by omega), if_pos (by omega), if_pos (by omega), wrap_succ i (by omega), hd, List.filter_cons, show k + 1 - (e + 1) - 1 = k - e - 1 by omega]
  by_cases hc : (!((rD l i).f0 == a) || !((rD l i).f1 == b)) = true
  ·rw [if_pos hc, if_pos (by omega), if_pos hc, ih (i + 1) k _ (by omega) (by rw [List.length_append, List.length_singleton]; omega) (by omega)]
   simp
  ·rw [if_neg hc, if_neg hc]
   exact ih (i + 1) k acc (by omega) (by omega) (by omega)

theorem Tri.cut {n : Int} {l : List DG} (T : Tri n l) (d : DG) (hd : d ∈ l) : ∃ A B, l = A ++ d :: B ∧ (∀ x ∈ A, ¬ (x.f0 = d.f0 ∧ x.f1 = d.f1)) ∧ ∀ x ∈ B, ¬ (x.f0 = d.f0 ∧ x.f1 = d.f1) := by
 obtain ⟨A, B, e⟩ := List.append_of_mem hd
 refine ⟨A, B, e, ?_, ?_⟩
 ·intro x hx
  have hs := T.sorted
  rw [e, List.pairwise_append] at hs
  have := hs.2.2 x hx d (List.mem_cons_self ..)
  omega
 ·intro x hx
  have hs := T.sorted
  rw [e, List.pairwise_append] at hs
  have := (List.pairwise_cons.1 hs.2.1).1 x hx
  omega

theorem flip_spec {n : Int} {l : List DG} (T : Tri n l) (d : DG) (hd : d ∈ l) (x o : Int) (x1 : d.f0 < x) (x2 : x < d.f1) (o1 : 0 ≤ o) (o2 : o ≤ n - 1) (o3 : o < d.f0 ∨ d.f1 < o)
  (hap : ∀ c, 0 ≤ c → c ≤ n - 1 → c ≠ d.f0 → c ≠ d.f1 → (apB n l d.f0 d.f1 c = true ↔ c = x ∨ c = o)) :
  ∃ r A B, l = A ++ d :: B ∧ (∀ x ∈ A, ¬ (x.f0 = d.f0 ∧ x.f1 = d.f1)) ∧ r.Pairwise leD ∧ r.Perm (⟨min x o, max x o⟩ :: (A ++ B)) ∧ ∀ k, 20020 < k → spec_flMake.f k n l d.f0 d.f1 = some r := by
 have hs := T.small
 obtain ⟨A, B, e, hA, hB⟩ := T.cut d hd
 have hlen : l.length = A.length + (B.length + 1) := by rw [e]; simp
 obtain ⟨r, _, r1, r2⟩ := poSorted_tells ((A ++ B) ++ [⟨min x o, max x o⟩]) (by simp; omega) 20000 (by omega)
 refine ⟨r, A, B, e, hA, r1, r2.trans (List.perm_append_singleton _ _), fun k hk => ?_⟩
 ·obtain ⟨k, rfl⟩ : ∃ q, k = q + (l.length + 1) := ⟨k - (l.length + 1), by omega⟩
  have h1 := make_rounds n l d.f0 d.f1 (by omega) l.length 0 (k + (l.length + 1)) [] (by omega) (by simp) (by omega)
  rw [show k + (l.length + 1) - l.length - 1 = k by omega, flOther_tells T d hd x o x1 x2 o1 o2 o3 hap k (by omega), Option.bind_some, List.drop_zero, List.nil_append] at h1
  have hf : l.filter (fun x => !(x.f0 == d.f0) || !(x.f1 == d.f1)) = A ++ B := by
   rw [e, List.filter_append, List.filter_cons]
   have q1 : A.filter (fun x => !(x.f0 == d.f0) || !(x.f1 == d.f1)) = A := by
    rw [List.filter_eq_self]
    intro x hx
    have := hA x hx
    by_cases h : x.f0 = d.f0
    ·have : ¬ x.f1 = d.f1 := fun h2 => this ⟨h, h2⟩
     simp [this]
    ·simp [h]
   have q2 : B.filter (fun x => !(x.f0 == d.f0) || !(x.f1 == d.f1)) = B := by
    rw [List.filter_eq_self]
    intro x hx
    have := hB x hx
    by_cases h : x.f0 = d.f0
    ·have : ¬ x.f1 = d.f1 := fun h2 => this ⟨h, h2⟩
     simp [this]
    ·simp [h]
   rw [q1, q2]
   simp
  rw [hf] at h1
  obtain ⟨r', h2, h3, h4⟩ := poSorted_tells ((A ++ B) ++ [⟨min x o, max x o⟩]) (by simp; omega) k (by omega)
  have er : r' = r := sorted_unique (h4.trans r2.symm) h3 r1
  rw [h2, er, Option.bind_some] at h1
  exact h1

theorem indexD_tells (A B : List DG) (d : DG) (hA : ∀ x ∈ A, ¬ (x.f0 = d.f0 ∧ x.f1 = d.f1)) (hl : (A ++ d :: B).length ≤ 4611686018427387904) (e : Nat) : ∀ (i k : Nat), i + e = A.length → e < k →
  impl_Diagonal_115.l0 k (A ++ d :: B) ((A ++ d :: B).length : Int) (i : Int) d.f0 d.f1 = some (A.length : Int) := by
 have hlen : (A ++ d :: B).length = A.length + (B.length + 1) := by simp
 induction e with
 | zero =>
  intro i k hi hk
  obtain ⟨k, rfl⟩ : ∃ q, k = q + 1 := ⟨k - 1, by omega⟩
  simp only [impl_Diagonal_115.l0]
  rw [if_pos (by omega), if_pos (by omega), if_pos (by omega), rT_mid A d B (i : Int) (by omega), if_pos (by simp)]
  rw [show i = A.length by omega]
 | succ e ih =>
  intro i k hi hk
  obtain ⟨k, rfl⟩ : ∃ q, k = q + 1 := ⟨k - 1, by omega⟩
  have hx : rd_T36 (A ++ d :: B) (i : Int) ∈ A := by
   unfold rd_T36
   rw [Int.toNat_natCast, List.getD_eq_getElem?_getD, List.getElem?_append_left (by omega), List.getElem?_eq_getElem (by omega)]
   exact List.getElem_mem _
  have hn := hA _ hx
  simp only [impl_Diagonal_115.l0]
  rw [if_pos (by omega), if_pos (by omega), if_pos (by omega), wrap_succ i (by omega), ih (i + 1) k (by omega) (by omega), if_neg]
  rw [Bool.and_eq_true, beq_iff_eq, beq_iff_eq]
  exact fun h => hn ⟨h.1.symm, h.2.symm⟩

theorem flip_same {n : Int} {l : List DG} (T : Tri n l) (d : DG) (hd : d ∈ l) (x o : Int) (x1 : d.f0 < x) (x2 : x < d.f1) (o1 : 0 ≤ o) (o2 : o ≤ n - 1) (o3 : o < d.f0 ∨ d.f1 < o)
  (hap : ∀ c, 0 ≤ c → c ≤ n - 1 → c ≠ d.f0 → c ≠ d.f1 → (apB n l d.f0 d.f1 c = true ↔ c = x ∨ c = o)) :
  ∃ r A B, l = A ++ d :: B ∧ r.Pairwise leD ∧ r.Perm (⟨min x o, max x o⟩ :: (A ++ B)) ∧ ∀ k, 20020 < k → spec_flMake.f k n l d.f0 d.f1 = some r ∧ impl_flipped.f k n l d.f0 d.f1 = some r := by
 have hs := T.small
 obtain ⟨r, A, B, e, hA, r1, r2, r3⟩ := flip_spec T d hd x o x1 x2 o1 o2 o3 hap
 have hlen : l.length = A.length + (B.length + 1) := by rw [e]; simp
 refine ⟨r, A, B, e, r1, r2, fun k hk => ⟨r3 k hk, ?_⟩⟩
 ·have h1 := indexD_tells A B d hA (by rw [← e]; omega) A.length 0 k (by omega) (by omega)
  rw [← e] at h1
  obtain ⟨r', h2, h3, h4⟩ := sortFunc_tells (A ++ ⟨min x o, max x o⟩ :: B) (by simp; omega) k (by omega)
  have er : r' = r := by
   refine sorted_unique (h4.trans (List.Perm.trans ?_ r2.symm)) h3 r1
   exact List.perm_middle
  have hset : l.set A.length ⟨min x o, max x o⟩ = A ++ ⟨min x o, max x o⟩ :: B := by
   rw [e, List.set_append_right _ _ (by omega), Nat.sub_self]
   rfl
  have hcl : impl_Diagonal_87.f l = some l := by
   unfold impl_Diagonal_87.f
   rw [if_pos (by omega)]
  have hix : impl_Diagonal_115.f k l d.f0 d.f1 = some (A.length : Int) := h1
  unfold impl_flipped.f
  rw [hcl, Option.bind_some, hix, Option.bind_some, otherOf_tells T d hd x o x1 x2 o1 o2 o3 hap k (by omega), Option.bind_some, if_pos (by omega), if_pos (by omega), Int.toNat_natCast]
  simp only [hset, h2, Option.bind_some, er]

def conv36 (x : S35) : S36 := ⟨x.f0, x.f1⟩
theorem toS36_rounds (x0 : List S35) (hl : x0.length ≤ 1048576) (d : Nat) : ∀ (i k : Nat) (x3 : List S36), x3.length = x0.length → i + d = x0.length → d < k →
  laws_toDiagonalS.l0 k x0 x3 (i : Int) = some (x3.take i ++ (x0.drop i).map conv36) := by
 induction d with
 | zero =>
  intro i k x3 h3 hi hk
  obtain ⟨k, rfl⟩ : ∃ m, k = m + 1 := ⟨k - 1, by omega⟩
  simp only [laws_toDiagonalS.l0]
  rw [if_neg (by omega), List.drop_of_length_le (by omega), List.take_of_length_le (by omega), List.map_nil, List.append_nil]
 | succ d ih =>
  intro i k x3 h3 hi hk
  obtain ⟨k, rfl⟩ : ∃ m, k = m + 1 := ⟨k - 1, by omega⟩
  simp only [laws_toDiagonalS.l0, laws_toDiagonal.f, Option.bind_some]
  rw [if_pos (by omega), if_pos (by omega), if_pos (by omega), wrap_succ i (by omega), ih (i + 1) k _ (by rw [List.length_set]; exact h3) (by omega) (by omega), Int.toNat_natCast, take_set_succ _ _ _ (by omega), getD_drop x0 z35 i (by omega), List.map_cons]
  simp [rd_T35, conv36]
theorem toS36_tells (x0 : List S35) (hl : x0.length ≤ 1048576) : Ev (fun k => laws_toDiagonalS.f k x0) (x0.map conv36) := by
 refine ⟨x0.length + 1, fun k hk => ?_⟩
 show laws_toDiagonalS.f k x0 = _
 unfold laws_toDiagonalS.f
 rw [if_pos (by omega), if_pos (by omega), Int.toNat_natCast]
 have h := toS36_rounds x0 hl x0.length 0 k (List.replicate x0.length z36) (by simp) (by omega) (by omega)
 simpa using h
theorem eqS36_rounds (l : List S36) (hl : l.length ≤ 4611686018427387904) (d : Nat) : ∀ (i k : Nat), i + d = l.length → d < k → laws_eqDiagonalS.l0 k l l (i : Int) = some true := by
 induction d with
 | zero =>
  intro i k hi hk
  obtain ⟨k, rfl⟩ : ∃ m, k = m + 1 := ⟨k - 1, by omega⟩
  simp only [laws_eqDiagonalS.l0]
  rw [if_neg (by omega)]
 | succ d ih =>
  intro i k hi hk
  obtain ⟨k, rfl⟩ : ∃ m, k = m + 1 := ⟨k - 1, by omega⟩
  simp only [laws_eqDiagonalS.l0, laws_eqDiagonal.f, if_true, Option.bind_some]
  rw [if_pos (by omega), if_pos (by omega), if_pos (by omega), wrap_succ i (by omega)]
  exact ih (i + 1) k (by omega) (by omega)
theorem eqS36_tells (l : List S36) (hl : l.length ≤ 4611686018427387904) : Ev (fun k => laws_eqDiagonalS.f k l l) true := by
 refine ⟨l.length + 1, fun k hk => ?_⟩
 show laws_eqDiagonalS.f k l l = _
 unfold laws_eqDiagonalS.f
 rw [if_pos rfl]
 exact eqS36_rounds l hl l.length 0 k (by omega) (by omega)
theorem sz36_tells (l : List S35) (n : Int) (h0 : 0 ≤ n) (h1 : n ≤ 1048576) (hl : l.length ≤ 4611686018427387904) : laws_szDiagonalS.f l n = some (if n - (l.length : Int) < 0 then -1 else n - (l.length : Int)) := by
 unfold laws_szDiagonalS.f
 have w : wrap64 (n - (l.length : Int)) = n - (l.length : Int) := by unfold wrap64; omega
 rw [w]
 split <;> rfl
theorem sz36_any (l : List S35) (n : Int) (h0 : 0 ≤ n) (h1 : n ≤ 1048576) (hl : l.length ≤ maxLen) : ∃ r, laws_szDiagonalS.f l n = some r ∧ (r < 0 ∨ (0 ≤ r ∧ r = n - (l.length : Int))) := by
 unfold maxLen at hl
 unfold laws_szDiagonalS.f
 by_cases h : wrap64 (n - (l.length : Int)) < 0
 ·rw [if_pos h]
  exact ⟨_, rfl, .inl (by omega)⟩
 ·rw [if_neg h]
  have w : wrap64 (n - (l.length : Int)) = n - (l.length : Int) := by unfold wrap64 at h ⊢; omega
  exact ⟨_, rfl, .inr ⟨by omega, w⟩⟩

def iota36 : Int → Nat → List S36
 | _, 0 => []
 | v, m + 1 => ⟨v, v + 1⟩ :: iota36 (v + 2) m
theorem iota36_len : ∀ (m : Nat) (v : Int), (iota36 v m).length = m
 | 0, _ => rfl
 | m + 1, v => by rw [iota36, List.length_cons, iota36_len m]
theorem mark36_rounds (l : List S36) (hl : l.length ≤ 1048576) (e : Nat) : ∀ (i k : Nat) (P R : List S36) (v0 v : Int), P.length = i → R.length = e → i + e = l.length → 0 ≤ v0 → v0 ≤ 100000000 → v = v0 + 2 * (i : Int) → e < k →
  laws_markDiagonalS.l0 k (P ++ R) v (i : Int) = some (v0 + 2 * (l.length : Int), P ++ iota36 v e) := by
 induction e with
 | zero =>
  intro i k P R v0 v hP hR hi h00 h01 hv hk
  obtain ⟨k, rfl⟩ : ∃ q, k = q + 1 := ⟨k - 1, by omega⟩
  have : R = [] := List.length_eq_zero_iff.1 hR
  subst this
  simp only [laws_markDiagonalS.l0, List.append_nil, iota36]
  rw [if_neg (by omega), hv, show i = l.length by omega]
 | succ e ih =>
  intro i k P R v0 v hP hR hi h00 h01 hv hk
  obtain ⟨k, rfl⟩ : ∃ q, k = q + 1 := ⟨k - 1, by omega⟩
  cases R with
  | nil => simp at hR
  | cons x R =>
   rw [List.length_cons] at hR
   have w1 : wrap64 (v + 1) = v + 1 := by unfold wrap64; omega
   have w2 : wrap64 (v + 1 + 1) = v + 2 := by unfold wrap64; omega
   have s1 : ∀ y z : S36, (P ++ y :: R).set i z = P ++ z :: R := by
    intro y z
    rw [List.set_append_right _ _ (by omega), hP, Nat.sub_self]
    rfl
   have r1 : ∀ y : S36, rd_T36 (P ++ y :: R) (i : Int) = y := by
    intro y
    unfold rd_T36
    rw [Int.toNat_natCast, List.getD_eq_getElem?_getD, ← hP]
    simp
   simp only [laws_markDiagonalS.l0, Int.toNat_natCast, Option.bind_some, s1, r1, w1, w2]
   rw [if_pos (by rw [List.length_append, List.length_cons]; omega), if_pos (by omega), wrap_succ i (by omega)]
   have h := ih (i + 1) k (P ++ [⟨v, v + 1⟩]) R v0 (v + 2) (by rw [List.length_append, List.length_singleton]; omega) (by omega) (by omega) h00 h01 (by omega) (by omega)
   rw [iota36]
   simpa using h
theorem mark36_any (l : List S36) (hl : l.length ≤ 1048576) (v : Int) (h0 : 0 ≤ v) (h1 : v ≤ 100000000) (k : Nat) (hk : l.length < k) : laws_markDiagonalS.f k l v = some (v + 2 * (l.length : Int), iota36 v l.length) := by
 have h := mark36_rounds l hl l.length 0 k [] l v v rfl rfl (by omega) h0 h1 (by omega) hk
 unfold laws_markDiagonalS.f
 simpa using h
theorem mark36_tells (l : List S36) (hl : l.length ≤ 1048576) (k : Nat) (hk : l.length < k) : laws_markDiagonalS.f k l 1 = some (1 + 2 * (l.length : Int), iota36 1 l.length) :=
 mark36_any l hl 1 (by omega) (by omega) k hk

theorem bind_of {α β : Type} {o : Option α} {f : α → Option β} {v : α} (h : o = some v) : o.bind f = f v := by rw [h]; rfl
theorem getD_mem' (l : List (List S36)) (i : Nat) (h : i < l.length) : l.getD i [] ∈ l := by
 rw [List.getD_eq_getElem?_getD, List.getElem?_eq_getElem h]
 exact List.getElem_mem h
theorem eqSS_rounds (l : List (List S36)) (hl : l.length ≤ 300000) (hb : ∀ x ∈ l, x.length ≤ 100) (d : Nat) : ∀ (i k : Nat), i + d = l.length → d + 200 < k → laws_eqDiagonalSS.l0 k l l (i : Int) = some true := by
 induction d with
 | zero =>
  intro i k hi hk
  obtain ⟨k, rfl⟩ : ∃ m, k = m + 1 := ⟨k - 1, by omega⟩
  simp only [laws_eqDiagonalSS.l0]
  rw [if_neg (by omega)]
 | succ d ih =>
  intro i k hi hk
  obtain ⟨k, rfl⟩ : ∃ m, k = m + 1 := ⟨k - 1, by omega⟩
  have hx := hb _ (getD_mem' l i (by omega))
  have h1 : laws_eqDiagonalS.f k (l.getD i []) (l.getD i []) = some true := by
   unfold laws_eqDiagonalS.f
   rw [if_pos rfl]
   exact eqS36_rounds _ (by omega) _ 0 k (Nat.zero_add _) (by omega)
  simp only [laws_eqDiagonalSS.l0]
  rw [if_pos (by omega), if_pos (by omega), if_pos (by omega), wrap_succ i (by omega)]
  refine (bind_of h1).trans ?_
  rw [if_pos rfl]
  exact ih (i + 1) k (by omega) (by omega)
theorem eqSS_tells (l : List (List S36)) (hl : l.length ≤ 300000) (hb : ∀ x ∈ l, x.length ≤ 100) (k : Nat) (hk : l.length + 200 < k) : laws_eqDiagonalSS.f k l l = some true := by
 unfold laws_eqDiagonalSS.f
 rw [if_pos rfl]
 exact eqSS_rounds l hl hb l.length 0 k (Nat.zero_add _) hk
def sumL : List Nat → Int
 | [] => 0
 | m :: ms => 2 * (m : Int) + sumL ms
def iotaSS : Int → List Nat → List (List S36)
 | _, [] => []
 | v, m :: ms => iota36 v m :: iotaSS (v + 2 * (m : Int)) ms
theorem sumL_ge : ∀ ms : List Nat, 0 ≤ sumL ms
 | [] => Int.le_refl _
 | m :: ms => by
  have := sumL_ge ms
  unfold sumL
  omega
theorem iotaSS_len : ∀ (ms : List Nat) (v : Int), (iotaSS v ms).length = ms.length
 | [], _ => rfl
 | m :: ms, v => by rw [iotaSS, List.length_cons, List.length_cons, iotaSS_len ms]
theorem markSS_rounds (L : Nat) (hL : L ≤ 300000) (R : List (List S36)) : ∀ (k : Nat) (P : List (List S36)) (v : Int), (∀ x ∈ R, x.length ≤ 100) → P.length + R.length = L → 0 ≤ v → v + 200 * (R.length : Int) ≤ 80000000 → R.length + 200 < k →
  laws_markDiagonalSS.l0 k (P ++ R) v (P.length : Int) = some (v + sumL (R.map List.length), P ++ iotaSS v (R.map List.length)) := by
 induction R with
 | nil =>
  intro k P v hb hP h0 h1 hk
  obtain ⟨k, rfl⟩ : ∃ q, k = q + 1 := ⟨k - 1, by omega⟩
  simp only [laws_markDiagonalSS.l0, List.append_nil, List.map_nil, iotaSS, sumL]
  rw [if_neg (by omega), Int.add_zero]
 | cons x R ih =>
  intro k P v hb hP h0 h1 hk
  obtain ⟨k, rfl⟩ : ∃ q, k = q + 1 := ⟨k - 1, by omega⟩
  rw [List.length_cons] at hP h1 hk
  have hx := hb x (by simp)
  have g1 : (P ++ x :: R).getD P.length [] = x := by
   rw [List.getD_eq_getElem?_getD]
   simp
  have s1 : ∀ z, (P ++ x :: R).set P.length z = P ++ z :: R := by
   intro z
   rw [List.set_append_right _ _ (Nat.le_refl _), Nat.sub_self]
   rfl
  have hm := mark36_any x (by omega) v h0 (by omega) k (by omega)
  have h := ih k (P ++ [iota36 v x.length]) (v + 2 * (x.length : Int)) (fun y hy => hb y (by simp [hy])) (by rw [List.length_append, List.length_singleton]; omega) (by omega) (by omega) (by omega)
  rw [List.length_append, List.length_singleton, List.append_assoc, List.append_assoc] at h
  simp only [laws_markDiagonalSS.l0]
  rw [if_pos (by rw [List.length_append, List.length_cons]; omega), if_pos (by omega), Int.toNat_natCast, g1]
  refine (bind_of hm).trans ?_
  simp only [s1]
  rw [wrap_succ P.length (by omega)]
  simp only [List.map_cons, iotaSS, sumL]
  rw [← Int.add_assoc]
  exact h
theorem markSS_tells (l : List (List S36)) (hl : l.length ≤ 300000) (hb : ∀ x ∈ l, x.length ≤ 100) (k : Nat) (hk : l.length + 200 < k) : laws_markDiagonalSS.f k l 1 = some (1 + sumL (l.map List.length), iotaSS 1 (l.map List.length)) :=
 markSS_rounds l.length hl l k [] 1 hb (by simp) (by omega) (by omega) hk
theorem heldV_rounds (L : Nat) (hl : L ≤ 100) (v0 : Int) (h0 : 0 ≤ v0) (h1 : v0 ≤ 100000000) (e : Nat) : ∀ (i k : Nat) (P : List S36) (v : Int), P.length = i → i + e = L → v = v0 + 2 * (i : Int) → e < k →
  laws_heldDiagonalS.l0 k (P ++ iota36 v e) v (i : Int) = some (v0 + 2 * (L : Int)) := by
 induction e with
 | zero =>
  intro i k P v hP hi hv hk
  obtain ⟨k, rfl⟩ : ∃ q, k = q + 1 := ⟨k - 1, by omega⟩
  simp only [laws_heldDiagonalS.l0, iota36, List.append_nil]
  rw [if_neg (by omega), hv, show i = L by omega]
 | succ e ih =>
  intro i k P v hP hi hv hk
  obtain ⟨k, rfl⟩ : ∃ q, k = q + 1 := ⟨k - 1, by omega⟩
  have w1 : wrap64 (v + 1) = v + 1 := by unfold wrap64; omega
  have w2 : wrap64 (v + 1 + 1) = v + 2 := by unfold wrap64; omega
  have r1 : rd_T36 (P ++ iota36 v (e + 1)) (i : Int) = ⟨v, v + 1⟩ := by
   unfold rd_T36
   rw [Int.toNat_natCast, List.getD_eq_getElem?_getD, ← hP, iota36]
   simp
  simp only [laws_heldDiagonalS.l0, r1, w1, w2, if_true]
  rw [if_pos (by rw [List.length_append, iota36_len]; omega), if_pos (by omega), wrap_succ i (by omega)]
  have h := ih (i + 1) k (P ++ [⟨v, v + 1⟩]) (v + 2) (by rw [List.length_append, List.length_singleton]; omega) (by omega) (by omega) (by omega)
  rw [iota36]
  simpa using h
theorem heldSS_rounds (L : Nat) (hL : L ≤ 300000) (ms : List Nat) : ∀ (k : Nat) (P : List (List S36)) (v : Int), (∀ x ∈ ms, x ≤ 100) → P.length + ms.length = L → 0 ≤ v → v + 200 * (ms.length : Int) ≤ 80000000 → ms.length + 200 < k →
  laws_heldDiagonalSS.l0 k (P ++ iotaSS v ms) v (P.length : Int) = some (v + sumL ms) := by
 induction ms with
 | nil =>
  intro k P v hb hP h0 h1 hk
  obtain ⟨k, rfl⟩ : ∃ q, k = q + 1 := ⟨k - 1, by omega⟩
  simp only [laws_heldDiagonalSS.l0, List.append_nil, iotaSS, sumL]
  rw [if_neg (by omega), Int.add_zero]
 | cons m ms ih =>
  intro k P v hb hP h0 h1 hk
  obtain ⟨k, rfl⟩ : ∃ q, k = q + 1 := ⟨k - 1, by omega⟩
  rw [List.length_cons] at hP h1 hk
  have hx := hb m (by simp)
  have g1 : (P ++ iota36 v m :: iotaSS (v + 2 * (m : Int)) ms).getD P.length [] = iota36 v m := by
   rw [List.getD_eq_getElem?_getD]
   simp
  have hm : laws_heldDiagonalS.f k ((P ++ iota36 v m :: iotaSS (v + 2 * (m : Int)) ms).getD P.length []) v = some (v + 2 * (m : Int)) := by
   rw [g1]
   exact heldV_rounds m hx v h0 (by omega) m 0 k [] v rfl (by omega) (by omega) (by omega)
  have h := ih k (P ++ [iota36 v m]) (v + 2 * (m : Int)) (fun y hy => hb y (by simp [hy])) (by rw [List.length_append, List.length_singleton]; omega) (by omega) (by omega) (by omega)
  rw [List.length_append, List.length_singleton, List.append_assoc] at h
  have c1 : (P.length : Int) < ((P ++ iota36 v m :: iotaSS (v + 2 * (m : Int)) ms).length : Int) := by rw [List.length_append, List.length_cons]; omega
  have c2 : 0 ≤ (P.length : Int) := by omega
  rw [show iotaSS v (m :: ms) = iota36 v m :: iotaSS (v + 2 * (m : Int)) ms from rfl]
  simp only [laws_heldDiagonalSS.l0]
  rw [if_pos c1, if_pos c2]
  refine (bind_of hm).trans ?_
  rw [if_neg (by omega), wrap_succ P.length (by omega)]
  simp only [sumL]
  rw [← Int.add_assoc]
  exact h
theorem heldSS_tells (l : List (List S36)) (hl : l.length ≤ 300000) (hb : ∀ x ∈ l, x.length ≤ 100) (k : Nat) (hk : l.length + 200 < k) : laws_heldDiagonalSS.f k (iotaSS 1 (l.map List.length)) 1 = some (1 + sumL (l.map List.length)) := by
 have h := heldSS_rounds l.length hl (l.map List.length) k [] 1 (fun x hx => by obtain ⟨y, hy, rfl⟩ := List.mem_map.1 hx; exact hb y hy) (by simp) (by omega) (by rw [List.length_map]; omega) (by rw [List.length_map]; omega)
 exact h

theorem rD_mem (l : List DG) (i : Nat) (h : i < l.length) : rD l i ∈ l := by
 have : rD l i ∈ l.drop i := by
  rw [rD_drop l i h]
  exact List.mem_cons_self ..
 exact List.mem_of_mem_drop this
theorem flips_rounds (n : Int) (C : List DG) (T : Tri n C) (e : Nat) : ∀ (i : Nat) (acc : List (List DG)), i + e = C.length → acc.length + e ≤ 1000 →
  ∃ R : List (List DG), R.length = e ∧ (∀ x ∈ R, x.length ≤ 100) ∧ ∀ k, 20040 + e < k → spec_flAll.l0 k n C acc C (C.length : Int) (i : Int) = some (acc ++ R) ∧ impl_AllFlips.l0 k n C acc C (C.length : Int) (i : Int) = some (acc ++ R, true) := by
 have hs := T.small
 induction e with
 | zero =>
  intro i acc hi ha
  refine ⟨[], rfl, (fun x hx => by cases hx), fun k hk => ?_⟩
  obtain ⟨k, rfl⟩ : ∃ q, k = q + 1 := ⟨k - 1, by omega⟩
  constructor
  ·simp only [spec_flAll.l0]
   rw [if_neg (by omega), List.append_nil]
  ·simp only [impl_AllFlips.l0]
   rw [if_neg (by omega), List.append_nil]
 | succ e ih =>
  intro i acc hi ha
  have hd := rD_mem C i (by omega)
  obtain ⟨x, o, x1, x2, o1, o2, o3, hap⟩ := T.apex2 _ hd
  obtain ⟨r, A, B, ee, r1, r2, hr⟩ := flip_same T _ hd x o x1 x2 o1 o2 o3 hap
  have hrl : r.length ≤ 100 := by
   have h1 := r2.length_eq
   rw [ee] at hs
   simp at h1 hs
   omega
  obtain ⟨R, R1, R2, R3⟩ := ih (i + 1) (acc ++ [r]) (by omega) (by rw [List.length_append, List.length_singleton]; omega)
  refine ⟨r :: R, by rw [List.length_cons, R1], fun y hy => ?_, fun k hk => ?_⟩
  ·rcases List.mem_cons.1 hy with h | h
   ·rw [h]; exact hrl
   ·exact R2 y h
  ·obtain ⟨k, rfl⟩ : ∃ q, k = q + 1 := ⟨k - 1, by omega⟩
   obtain ⟨g1, g2⟩ := R3 k (by omega)
   obtain ⟨q1, q2⟩ := hr k (by omega)
   rw [List.append_assoc, List.singleton_append] at g1 g2
   have c1 : (i : Int) < (C.length : Int) := by omega
   have c2 : 0 ≤ (i : Int) := by omega
   have c3 : acc.length < 5864062014805 := by omega
   have i100 : i < 100 := by omega
   have w := wrap_succ i (Nat.lt_of_lt_of_le i100 (by decide))
   constructor
   ·simp only [spec_flAll.l0]
    rw [if_pos c1, if_pos c2, if_pos c1, q1, Option.bind_some, if_pos c3, w]
    exact g1
   ·simp only [impl_AllFlips.l0]
    rw [if_pos c1, if_pos c2, if_pos c1, q2, Option.bind_some, if_pos c3, w]
    exact g2
/-- What both return. -/
theorem both (n : Int) (C : List DG) (hc : C.length ≤ 1048576) : ∃ (K : Nat) (r : List (List DG)) (ok : Bool), (r.length ≤ 300000 ∧ ∀ x ∈ r, x.length ≤ 100) ∧ ∀ k, K ≤ k → spec_AllFlips.f k n C = some (r, ok) ∧ impl_AllFlips.f k n C = some (r, ok) := by
 obtain ⟨K, e1, e2⟩ := Ev.at2 (poGood_tells n C (by omega)) (isTri_tells n C (by omega))
 have E1 : ∀ k, K ≤ k → spec_poGood.f k n C = some (isTriB n C) := fun k hk => by rw [show k = K + (k - K) by omega]; exact e1 _
 have E2 : ∀ k, K ≤ k → impl_IsTriangulation.f k n C = some (isTriB n C) := fun k hk => by rw [show k = K + (k - K) by omega]; exact e2 _
 cases ht : isTriB n C
 ·refine ⟨K, [], false, ⟨by simp, (fun x hx => by cases hx)⟩, fun k hk => ?_⟩
  simp [spec_AllFlips.f, impl_AllFlips.f, E1 k hk, E2 k hk, ht]
 ·have T := tri_of n C ht
  have hs := T.small
  obtain ⟨R, R1, R2, R3⟩ := flips_rounds n C T C.length 0 [] (by omega) (by simp; omega)
  refine ⟨K + 30000, R, true, ⟨by omega, R2⟩, fun k hk => ?_⟩
  obtain ⟨g1, g2⟩ := R3 k (by omega)
  rw [show ((0 : Nat) : Int) = 0 from rfl, List.nil_append] at g1 g2
  constructor
  ·unfold spec_AllFlips.f spec_flAll.f
   rw [E1 k (by omega), ht, Option.bind_some, if_pos rfl, g1]
   rfl
  ·unfold impl_AllFlips.f
   rw [E2 k (by omega), ht, Option.bind_some, if_pos rfl]
   exact g2

theorem FnExactAllFlips (n : Int) (l : List S35) (_ : (Lit.int .i64 n).wf = true) (hm_l : l.length ≤ maxLen) (_ : ∀ y ∈ l, (Lit.int .i64 y.f0).wf = true ∧ (Lit.int .i64 y.f1).wf = true) :
  ∃ k, laws_FnExactAllFlips.f k n l = some true := by
 obtain ⟨q0, hr0, hz0⟩ := sz36_any l 1048576 (by omega) (by omega) hm_l
 rcases hz0 with hz0 | ⟨hz0, hy0⟩
 ·refine ⟨0, ?_⟩
  unfold laws_FnExactAllFlips.f
  rw [hr0, Option.bind_some, if_pos hz0]
 ·
  obtain ⟨Cl, hCl⟩ : ∃ C, C = l.map conv36 := ⟨_, rfl⟩
  have hcl : Cl.length ≤ 1048576 := by rw [hCl, List.length_map]; omega
  obtain ⟨K1, r, ok, ⟨hrl, hrb⟩, hb⟩ := both n Cl hcl
  obtain ⟨K2, e0, e1⟩ := Ev.at2 (toS36_tells l (by omega)) (eqS36_tells Cl (by omega))
  simp only [← hCl] at e0
  obtain ⟨K3, hK3⟩ : ∃ K3 : Nat, K3 = 0 := ⟨_, rfl⟩
  obtain ⟨M, hM⟩ : ∃ M, M = K1 + (K2 + (K3 + (Cl.length + r.length + 1000))) := ⟨_, rfl⟩
  have b1 : ∀ j, spec_AllFlips.f (M + j) n Cl = some (r, ok) := fun j => (hb (M + j) (by omega)).1
  have b2 : ∀ j, impl_AllFlips.f (M + j) n Cl = some (r, ok) := fun j => (hb (M + j) (by omega)).2
  have t0 : ∀ j, laws_toDiagonalS.f (M + j) l = some Cl := fun j => by rw [show M + j = K2 + (M + j - K2) by omega]; exact e0 _
  have c0 : ∀ j, laws_eqDiagonalS.f (M + j) Cl Cl = some true := fun j => by rw [show M + j = K2 + (M + j - K2) by omega]; exact e1 _
  have m0 : ∀ j, laws_markDiagonalS.f (M + j) Cl 1 = _ := fun j => mark36_tells Cl hcl (M + j) (by omega)
  have er : ∀ j, laws_eqDiagonalSS.f (M + j) r r = some true := fun j => eqSS_tells r hrl hrb (M + j) (by omega)
  have mr : ∀ j, laws_markDiagonalSS.f (M + j) r 1 = _ := fun j => markSS_tells r hrl hrb (M + j) (by omega)
  have hd : ∀ j, laws_heldDiagonalSS.f (M + j) (iotaSS 1 (r.map List.length)) 1 = _ := fun j => heldSS_tells r hrl hrb (M + j) (by omega)
  have hsum := sumL_ge (r.map List.length)
  have j2 : laws_FnExactAllFlips.j2 (M + 2) (iotaSS 1 (r.map List.length)) (1 + sumL (r.map List.length)) false = some true := by
   simp only [laws_FnExactAllFlips.j2, hd, Option.bind_some, Bool.false_eq_true, if_false, if_true]
   rw [if_neg (by omega)]
  have j1 : laws_FnExactAllFlips.j1 (M + 3) n l r ok r false = some true := by
   simp only [laws_FnExactAllFlips.j1, mr, hd, t0, b2, er, Option.bind_some, Bool.false_eq_true, if_false, if_true]
   rw [if_neg (by omega), bne_self_eq_false]
   exact j2
  have j0 : laws_FnExactAllFlips.j0 (M + 4) n l r ok Cl r ok false = some true := by
   simp only [laws_FnExactAllFlips.j0, t0, c0, er, m0, Option.bind_some, Bool.false_eq_true, if_false, if_true]
   rw [if_neg (by omega), bne_self_eq_false]
   exact j1
  refine ⟨M + 4, ?_⟩
  simp only [laws_FnExactAllFlips.f, hr0, Option.bind_some, b1, b2, t0, er, if_true]
  rw [if_neg (by omega), bne_self_eq_false]
  exact j0

end Go.Proofs.Ytkipgbakoljaeaa.PureFnExactAllFlips
