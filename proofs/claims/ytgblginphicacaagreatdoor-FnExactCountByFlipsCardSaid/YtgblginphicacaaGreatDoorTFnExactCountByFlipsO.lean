/- What the plain text of this law begins with. -/
import Derived.Test.YtgblginphicacaaGreatDoorPFnExactCountByFlipsx0
import Derived.Test.YtgblginphicacaaGreatDoorPFnExactCountByFlipsx1
import Derived.Test.YtgblginphicacaaGreatDoorPFnExactCountByFlipsx10
import Derived.Test.YtgblginphicacaaGreatDoorPFnExactCountByFlipsx11
import Derived.Test.YtgblginphicacaaGreatDoorPFnExactCountByFlipsx12
import Derived.Test.YtgblginphicacaaGreatDoorPFnExactCountByFlipsx13
import Derived.Test.YtgblginphicacaaGreatDoorPFnExactCountByFlipsx14
import Derived.Test.YtgblginphicacaaGreatDoorPFnExactCountByFlipsx15
import Derived.Test.YtgblginphicacaaGreatDoorPFnExactCountByFlipsx16
import Derived.Test.YtgblginphicacaaGreatDoorPFnExactCountByFlipsx17
import Derived.Test.YtgblginphicacaaGreatDoorPFnExactCountByFlipsx18
import Derived.Test.YtgblginphicacaaGreatDoorPFnExactCountByFlipsx19
import Derived.Test.YtgblginphicacaaGreatDoorPFnExactCountByFlipsx2
import Derived.Test.YtgblginphicacaaGreatDoorPFnExactCountByFlipsx20
import Derived.Test.YtgblginphicacaaGreatDoorPFnExactCountByFlipsx21
import Derived.Test.YtgblginphicacaaGreatDoorPFnExactCountByFlipsx3
import Derived.Test.YtgblginphicacaaGreatDoorPFnExactCountByFlipsx4
import Derived.Test.YtgblginphicacaaGreatDoorPFnExactCountByFlipsx5
import Derived.Test.YtgblginphicacaaGreatDoorPFnExactCountByFlipsx6
import Derived.Test.YtgblginphicacaaGreatDoorPFnExactCountByFlipsx7
import Derived.Test.YtgblginphicacaaGreatDoorPFnExactCountByFlipsx8
import Derived.Test.YtgblginphicacaaGreatDoorPFnExactCountByFlipsx9
set_option linter.unusedSimpArgs false
set_option linter.unnecessarySimpa false
set_option linter.unusedVariables false
namespace Go.Proofs.YtgblginphicacaaGreatDoor.PureFnExactCountByFlips
open Go.RowKit Go.Proofs.YtgblginphicacaaGreatDoor.PFnExactCountByFlips Go.Proofs.YtgblginphicacaaGreatDoorW.PrintWords Go.Proofs.YtgblginphicacaaGreatDoorW.PrintLast

theorem Ev.at2 {α β : Type} {g : Nat → Option α} {r : α} {g2 : Nat → Option β} {r2 : β} (h : Ev g r) (h2 : Ev g2 r2) : ∃ K, (∀ j, g (K + j) = some r) ∧ ∀ j, g2 (K + j) = some r2 := by
 obtain ⟨K, h⟩ := h
 obtain ⟨K2, h2⟩ := h2
 exact ⟨K + K2, fun j => h _ (by omega), fun j => h2 _ (by omega)⟩
theorem Ev.all {α β : Type} {g : α → Nat → Option β} {r : α → β} (l : List α) (h : ∀ x, x ∈ l → Ev (g x) (r x)) : ∃ K, ∀ x, x ∈ l → ∀ k, K ≤ k → g x k = some (r x) := by
 induction l with
 | nil => exact ⟨0, fun x hx => by cases hx⟩
 | cons y l ih =>
  obtain ⟨K, hK⟩ := ih (fun x hx => h x (List.mem_cons_of_mem _ hx))
  obtain ⟨K2, hK2⟩ := h y (List.mem_cons_self ..)
  refine ⟨K + K2, fun x hx k hk => ?_⟩
  rcases List.mem_cons.1 hx with e | e
  ·subst e
   exact hK2 k (by omega)
  ·exact hK x e k (by omega)

theorem take_set_succ {α : Type} (l : List α) (i : Nat) (v : α) (h : i < l.length) : (l.set i v).take (i + 1) = l.take i ++ [v] := by
 rw [List.take_succ_eq_append_getElem (by rw [List.length_set]; exact h), List.getElem_set_self, List.take_set_of_le (Nat.le_refl i)]
theorem getD_drop {α : Type} (l : List α) (d : α) (i : Nat) (h : i < l.length) : l.drop i = l.getD i d :: l.drop (i + 1) := by
 rw [List.drop_eq_getElem_cons h, List.getD_eq_getElem?_getD, List.getElem?_eq_getElem h]
 rfl
theorem wrap_succ (i : Nat) (h : i < 4611686018427387904) : wrap64 ((i : Int) + 1) = ((i + 1 : Nat) : Int) := by unfold wrap64; omega
theorem wrap_pred (i : Nat) (h0 : 0 < i) (h : i < 4611686018427387904) : wrap64 ((i : Int) - 1) = ((i - 1 : Nat) : Int) := by unfold wrap64; omega

theorem l1In_tells (a b c : Int) : spec_l1In.f a b c = some (decide (b ≤ a ∧ a ≤ c)) := by
 unfold spec_l1In.f
 by_cases h : a ≥ b
 ·rw [if_pos h]
  have : b ≤ a := h
  simp [this]
 ·rw [if_neg h]
  have : ¬ b ≤ a := h
  simp [this]

theorem within_tells (a b c : Int) : impl_within.f a b c = some (decide (b ≤ a ∧ a ≤ c)) := by
 unfold impl_within.f
 by_cases h : a ≥ b
 ·rw [if_pos h]
  have : b ≤ a := h
  simp [this]
 ·rw [if_neg h]
  have : ¬ b ≤ a := h
  simp [this]

abbrev DG := S38
abbrev rD (l : List DG) (j : Nat) : DG := rd_T38 l (j : Int)
def crossB (a b c d : Int) : Bool := decide (a < c ∧ c < b ∧ b < d) || decide (c < a ∧ a < d ∧ d < b)
def diagB (n a b : Int) : Bool := decide (0 ≤ a ∧ b ≤ n - 1 ∧ b - a ≥ 2 ∧ b - a ≤ n - 2)
def lessB (a b c d : Int) : Bool := decide (a < c ∨ (a = c ∧ b < d))
def stepD (n : Int) (l : List DG) (j : Nat) : Bool :=
 diagB n (rD l j).f0 (rD l j).f1 && ((j == 0 || lessB (rD l (j - 1)).f0 (rD l (j - 1)).f1 (rD l j).f0 (rD l j).f1) && !(l.take j).any fun e => crossB (rD l j).f0 (rD l j).f1 e.f0 e.f1)
theorem stepD_def (n : Int) (l : List DG) (j : Nat) : stepD n l j = (diagB n (rD l j).f0 (rD l j).f1 && ((j == 0 || lessB (rD l (j - 1)).f0 (rD l (j - 1)).f1 (rD l j).f0 (rD l j).f1) && !(l.take j).any fun e => crossB (rD l j).f0 (rD l j).f1 e.f0 e.f1)) := rfl
def goodD (n : Int) (l : List DG) : Bool := (List.range' 0 l.length).all (stepD n l)

theorem rD_drop (l : List DG) (i : Nat) (h : i < l.length) : l.drop i = rD l i :: l.drop (i + 1) := by
 rw [getD_drop l z38 i h]
 unfold rD rd_T38
 rw [Int.toNat_natCast]
theorem any_take_step (p : DG → Bool) (l : List DG) (i : Nat) (h : i < l.length) : (l.drop i).any p = (p (rD l i) || (l.drop (i + 1)).any p) := by
 rw [rD_drop l i h, List.any_cons]

theorem poCross_tells (a b c d : Int) : spec_poCross.f a b c d = some (crossB a b c d) := by
 unfold spec_poCross.f crossB
 repeat' split
 all_goals congr 1; rw [Bool.eq_iff_iff]; simp only [Bool.or_eq_true, decide_eq_true_eq, Bool.false_eq_true, false_iff, true_iff]; omega
theorem poLess_tells (a b c d : Int) : spec_poLess.f a b c d = some (lessB a b c d) := by
 unfold spec_poLess.f lessB
 repeat' split
 all_goals congr 1; rw [Bool.eq_iff_iff]; simp only [decide_eq_true_eq, Bool.false_eq_true, false_iff, true_iff]; omega
theorem poIs_tells (n : Int) : spec_poIs.f n = some (decide (3 ≤ n ∧ n ≤ 12)) := by
 unfold spec_poIs.f
 rw [l1In_tells]
 rfl
theorem poDiagonal_tells (n a b : Int) (h : 3 ≤ n ∧ n ≤ 12) : spec_poDiagonal.f n a b = some (diagB n a b) := by
 unfold spec_poDiagonal.f diagB
 rw [poIs_tells, l1In_tells, l1In_tells, decide_eq_true h]
 have w : wrap64 (n - 1) = n - 1 := by unfold wrap64; omega
 have w2 : wrap64 (n - 2) = n - 2 := by unfold wrap64; omega
 simp only [Option.bind_some, if_true, w, w2, decide_eq_true_eq]
 by_cases h0 : 0 ≤ a ∧ a ≤ n - 1
 ·by_cases h1 : 0 ≤ b ∧ b ≤ n - 1
  ·have w3 : wrap64 (b - a) = b - a := by unfold wrap64; omega
   rw [if_pos h0, if_pos h1, w3]
   split
   all_goals congr 1; rw [Bool.eq_iff_iff]; simp only [decide_eq_true_eq, Bool.false_eq_true, false_iff]; omega
  ·rw [if_pos h0, if_neg h1]
   congr 1; rw [Bool.eq_iff_iff]; simp only [decide_eq_true_eq, Bool.false_eq_true, false_iff]; omega
 ·rw [if_neg h0]
  congr 1; rw [Bool.eq_iff_iff]; simp only [decide_eq_true_eq, Bool.false_eq_true, false_iff]; omega

theorem spec_poGood_inner (n : Int) (l y x19 : List DG) (x20 x21 c d : Int) (hy : y.length ≤ 4611686018427387904) (e : Nat) : ∀ (m k : Nat), m + e = y.length → e < k →
  spec_poGood.l1 k n l x19 x20 x21 y (y.length : Int) (m : Int) c d = if (y.drop m).any (fun z => crossB c d z.f0 z.f1) = true then some false else spec_poGood.l0 (k - e - 1) n l x19 x20 (wrap64 (x21 + 1)) := by
 induction e with
 | zero =>
  intro m k hm hk
  obtain ⟨k, rfl⟩ : ∃ q, k = q + 1 := ⟨k - 1, by omega⟩
  simp only [spec_poGood.l1]
  rw [if_neg (by omega), List.drop_of_length_le (by omega)]
  simp
 | succ e ih =>
  intro m k hm hk
  obtain ⟨k, rfl⟩ : ∃ q, k = q + 1 := ⟨k - 1, by omega⟩
  simp only [spec_poGood.l1]
  rw [if_pos (by omega), if_pos (by omega), if_pos (by omega), poCross_tells, Option.bind_some, wrap_succ m (by omega), ih (m + 1) k (by omega) (by omega), any_take_step _ y m (by omega)]
  rw [show k + 1 - (e + 1) - 1 = k - e - 1 by omega]
  cases crossB c d (rD y m).f0 (rD y m).f1 <;> simp
theorem spec_poGood_rounds (n : Int) (hn : 3 ≤ n ∧ n ≤ 12) (l : List DG) (hl : l.length ≤ 4611686018427387904) (d : Nat) : ∀ (i k : Nat), i + d = l.length → d * (l.length + 3) < k →
  spec_poGood.l0 k n l l (l.length : Int) (i : Int) = some ((List.range' i d).all (stepD n l)) := by
 induction d with
 | zero =>
  intro i k hi hk
  obtain ⟨k, rfl⟩ : ∃ q, k = q + 1 := ⟨k - 1, by omega⟩
  simp only [spec_poGood.l0]
  rw [if_neg (by omega)]
  rfl
 | succ d ih =>
  intro i k hi hk
  have hk2 : d * (l.length + 3) + (l.length + 3) < k := by rw [← Nat.succ_mul]; exact hk
  obtain ⟨k, rfl⟩ : ∃ q, k = q + 1 := ⟨k - 1, by omega⟩
  have hj : ∀ b : Bool, spec_poGood.j2 k n l (i : Int) l (l.length : Int) (i : Int) b (rD l i).f0 (rD l i).f1 =
    if b = true then some false else if (l.take i).any (fun z => crossB (rD l i).f0 (rD l i).f1 z.f0 z.f1) = true then some false else some ((List.range' (i + 1) d).all (stepD n l)) := by
   intro b
   obtain ⟨k, rfl⟩ : ∃ q, k = q + 1 := ⟨k - 1, by omega⟩
   have ht : (l.take i).length = i := by rw [List.length_take]; omega
   have h1 := spec_poGood_inner n l (l.take i) l (l.length : Int) (i : Int) (rD l i).f0 (rD l i).f1 (by omega) i 0 k (by omega) (by omega)
   rw [List.drop_zero, wrap_succ i (by omega), ih (i + 1) _ (by omega) (by omega)] at h1
   simp only [spec_poGood.j2, Int.toNat_natCast, Option.bind_some]
   cases b
   ·rw [if_neg (by simp), if_pos (by omega), if_pos (by omega), if_neg (by simp)]
    exact h1
   ·rfl
  simp only [spec_poGood.l0]
  rw [if_pos (by omega), if_pos (by omega), if_pos (by omega), poDiagonal_tells n _ _ hn, Option.bind_some, List.range'_succ, List.all_cons, hj, hj, stepD_def n l i]
  cases diagB n (rD l i).f0 (rD l i).f1 with
  | false => simp
  | true =>
   rw [if_pos rfl]
   by_cases h0 : i = 0
   ·subst h0
    rw [if_neg (by omega)]
    cases (l.take 0).any (fun z => crossB (rD l 0).f0 (rD l 0).f1 z.f0 z.f1) <;> simp
   ·have b0 : (i == 0) = false := by simp [h0]
    rw [if_pos (by omega), wrap_pred i (by omega) (by omega), if_pos (by omega), if_pos (by omega), poLess_tells, Option.bind_some, hj, b0]
    cases lessB (rD l (i - 1)).f0 (rD l (i - 1)).f1 (rD l i).f0 (rD l i).f1 <;> cases (l.take i).any (fun z => crossB (rD l i).f0 (rD l i).f1 z.f0 z.f1) <;> simp

def isTriB (n : Int) (l : List DG) : Bool := decide (3 ≤ n ∧ n ≤ 12) && (decide ((l.length : Int) = n - 3) && goodD n l)
theorem poGood_tells (n : Int) (l : List DG) (hl : l.length ≤ 4611686018427387904) : Ev (fun k => spec_poGood.f k n l) (isTriB n l) := by
 refine ⟨l.length * (l.length + 3) + 2, fun k hk => ?_⟩
 obtain ⟨k, rfl⟩ : ∃ q, k = q + 1 := ⟨k - 1, by omega⟩
 show spec_poGood.f (k + 1) n l = _
 unfold spec_poGood.f isTriB goodD
 rw [poIs_tells, Option.bind_some]
 by_cases hn : 3 ≤ n ∧ n ≤ 12
 ·have w : wrap64 (n - 3) = n - 3 := by unfold wrap64; omega
  have h := spec_poGood_rounds n hn l hl l.length 0 k (by omega) (by omega)
  rw [show ((0 : Nat) : Int) = 0 from rfl] at h
  rw [decide_eq_true hn, if_pos rfl, w]
  simp only [spec_poGood.j0, h]
  by_cases hc : (l.length : Int) = n - 3
  ·rw [decide_eq_true hc, hc]
   simp
  ·rw [decide_eq_false hc]
   simp [hc]
 ·rw [decide_eq_false hn]
  rfl

theorem doCross_tells (a b c d : Int) : impl_doCross.f a b c d = some (crossB a b c d) := by
 unfold impl_doCross.f crossB
 repeat' split
 all_goals congr 1; rw [Bool.eq_iff_iff]; simp only [Bool.or_eq_true, decide_eq_true_eq, Bool.false_eq_true, false_iff, true_iff]; omega
theorem isPolygon_tells (n : Int) : impl_isPolygon.f n = some (decide (3 ≤ n ∧ n ≤ 12)) := by
 unfold impl_isPolygon.f
 rw [within_tells]
 rfl
theorem isDiagonal_tells (n a b : Int) (h : 3 ≤ n ∧ n ≤ 12) : impl_isDiagonal.f n a b = some (diagB n a b) := by
 unfold impl_isDiagonal.f diagB
 rw [within_tells, within_tells]
 have w : wrap64 (n - 1) = n - 1 := by unfold wrap64; omega
 simp only [Option.bind_some, w, decide_eq_true_eq]
 by_cases h0 : 0 ≤ a ∧ a ≤ n - 1
 ·by_cases h1 : 0 ≤ b ∧ b ≤ n - 1
  ·have w3 : wrap64 (b - a) = b - a := by unfold wrap64; omega
   rw [if_pos h0, if_pos h1, w3]
   repeat' split
   all_goals congr 1; rw [Bool.eq_iff_iff]; simp only [decide_eq_true_eq, Bool.false_eq_true, false_iff, Bool.not_eq_true', beq_eq_false_iff_ne, ne_eq, Bool.not_false, true_iff]; omega
  ·rw [if_pos h0, if_neg h1]
   congr 1; rw [Bool.eq_iff_iff]; simp only [decide_eq_true_eq, Bool.false_eq_true, false_iff]; omega
 ·rw [if_neg h0]
  congr 1; rw [Bool.eq_iff_iff]; simp only [decide_eq_true_eq, Bool.false_eq_true, false_iff]; omega
def cmpI (a c : Int) : Int := if a < c then -1 else if a > c then 1 else 0
def cmpD (a b c d : Int) : Int := if a = c then cmpI b d else cmpI a c
theorem compare_tells (a c : Int) : cmp_Compare_int.f a c = some (cmpI a c) := by
 unfold cmp_Compare_int.f cmp_isNaN_int.f cmpI
 have h0 : (a != a) = false := by simp
 have h1 : (c != c) = false := by simp
 rw [h0, h1]
 simp only [Option.bind_some, Bool.false_eq_true, if_false]
 repeat' split
 all_goals rfl
theorem compareDiagonals_tells (a b c d : Int) (k : Nat) (hk : 3 ≤ k) : impl_compareDiagonals.f k a b c d = some (cmpD a b c d) := by
 obtain ⟨k, rfl⟩ : ∃ q, k = q + 3 := ⟨k - 3, by omega⟩
 unfold impl_compareDiagonals.f cmp_Or_int.f
 rw [compare_tells, compare_tells]
 simp only [Option.bind_some, List.length_cons, List.length_nil]
 have r0 : rd [cmpI a c, cmpI b d] 0 = cmpI a c := rfl
 have r1 : rd [cmpI a c, cmpI b d] 1 = cmpI b d := rfl
 have w0 : wrap64 (0 + 1) = 1 := by unfold wrap64; omega
 have w1 : wrap64 (1 + 1) = 2 := by unfold wrap64; omega
 simp only [cmp_Or_int.l0, w0, w1, r0, r1]
 unfold cmpD
 by_cases e : a = c
 ·have z : cmpI a c = 0 := by unfold cmpI; rw [if_neg (by omega), if_neg (by omega)]
  rw [if_pos e, z]
  by_cases z2 : cmpI b d = 0
  ·simp [z2]
  ·simp [z2]
 ·have z : ¬ cmpI a c = 0 := by
   unfold cmpI
   split
   ·omega
   ·split <;> omega
  rw [if_neg e]
  simp [z]
theorem cmpD_nonneg (a b c d : Int) : cmpD a b c d ≥ 0 ↔ lessB a b c d = false := by
 unfold cmpD cmpI lessB
 rw [decide_eq_false_iff_not]
 repeat' split
 all_goals omega

theorem impl_Diagonal_48_s1_rounds (l : List DG) (c d : Int) (hl : l.length ≤ 4611686018427387904) (e : Nat) : ∀ (i k : Nat), i + e = l.length → e < k →
  ∃ r, impl_Diagonal_48_s1.l0 k l (l.length : Int) (i : Int) c d = some r ∧ (r ≥ 0 ↔ (l.drop i).any (fun z => crossB c d z.f0 z.f1) = true) := by
 induction e with
 | zero =>
  intro i k hi hk
  obtain ⟨k, rfl⟩ : ∃ q, k = q + 1 := ⟨k - 1, by omega⟩
  simp only [impl_Diagonal_48_s1.l0]
  rw [if_neg (by omega), List.drop_of_length_le (by omega)]
  exact ⟨-1, rfl, by simp⟩
 | succ e ih =>
  intro i k hi hk
  obtain ⟨k, rfl⟩ : ∃ q, k = q + 1 := ⟨k - 1, by omega⟩
  obtain ⟨r, hr, hr2⟩ := ih (i + 1) k (by omega) (by omega)
  simp only [impl_Diagonal_48_s1.l0, impl_IsTriangulation_1_s2.f]
  rw [if_pos (by omega), if_pos (by omega), if_pos (by omega), doCross_tells, wrap_succ i (by omega), hr, any_take_step _ l i (by omega)]
  simp only [Option.bind_some]
  cases hc : crossB c d (rD l i).f0 (rD l i).f1 with
  | true => exact ⟨i, rfl, by simp⟩
  | false => exact ⟨r, rfl, by rw [Bool.false_or]; exact hr2⟩
theorem impl_Diagonal_29_s0_tells (l : List DG) (c d : Int) (hl : l.length ≤ 4611686018427387904) (k : Nat) (hk : l.length < k) : impl_Diagonal_29_s0.f k l c d = some (l.any fun z => crossB c d z.f0 z.f1) := by
 obtain ⟨r, hr, hr2⟩ := impl_Diagonal_48_s1_rounds l c d hl l.length 0 k (by omega) hk
 unfold impl_Diagonal_29_s0.f impl_Diagonal_48_s1.f
 rw [show ((0 : Nat) : Int) = 0 from rfl] at hr
 rw [hr, Option.bind_some]
 congr 1
 rw [Bool.eq_iff_iff, decide_eq_true_iff, hr2, List.drop_zero]

theorem impl_IsTriangulation_rounds (n : Int) (hn : 3 ≤ n ∧ n ≤ 12) (l : List DG) (hl : l.length ≤ 4611686018427387904) (d : Nat) : ∀ (i k : Nat), i + d = l.length → d + l.length + 3 < k →
  impl_IsTriangulation.l0 k n l l (l.length : Int) (i : Int) = some ((List.range' i d).all (stepD n l)) := by
 induction d with
 | zero =>
  intro i k hi hk
  obtain ⟨k, rfl⟩ : ∃ q, k = q + 1 := ⟨k - 1, by omega⟩
  simp only [impl_IsTriangulation.l0]
  rw [if_neg (by omega)]
  rfl
 | succ d ih =>
  intro i k hi hk
  obtain ⟨k, rfl⟩ : ∃ q, k = q + 1 := ⟨k - 1, by omega⟩
  have ht : (l.take i).length = i := by rw [List.length_take]; omega
  have hc : impl_Diagonal_29_s0.f k (l.take i) (rD l i).f0 (rD l i).f1 = some ((l.take i).any fun z => crossB (rD l i).f0 (rD l i).f1 z.f0 z.f1) := impl_Diagonal_29_s0_tells _ _ _ (by omega) k (by omega)
  simp only [impl_IsTriangulation.l0, Int.toNat_natCast]
  rw [if_pos (by omega), if_pos (by omega), if_pos (by omega), isDiagonal_tells n _ _ hn, Option.bind_some, hc, Option.bind_some, wrap_succ i (by omega), ih (i + 1) k (by omega) (by omega), List.range'_succ, List.all_cons, stepD_def n l i]
  cases diagB n (rD l i).f0 (rD l i).f1 with
  | false => simp
  | true =>
   rw [if_pos rfl]
   by_cases h0 : i = 0
   ·subst h0
    rw [if_neg (by omega), if_pos (by omega)]
    cases (l.take 0).any (fun z => crossB (rD l 0).f0 (rD l 0).f1 z.f0 z.f1) <;> simp
   ·have b0 : (i == 0) = false := by simp [h0]
    rw [if_pos (by omega), wrap_pred i (by omega) (by omega), if_pos (by omega), if_pos (by omega), compareDiagonals_tells _ _ _ _ k (by omega), Option.bind_some, b0]
    have hcm := cmpD_nonneg (rD l (i - 1)).f0 (rD l (i - 1)).f1 (rD l i).f0 (rD l i).f1
    cases hs : lessB (rD l (i - 1)).f0 (rD l (i - 1)).f1 (rD l i).f0 (rD l i).f1 with
    | false => rw [if_pos (hcm.2 hs)]; simp
    | true =>
     rw [if_neg (fun h => by rw [hcm.1 h] at hs; cases hs), if_pos (by omega)]
     cases (l.take i).any (fun z => crossB (rD l i).f0 (rD l i).f1 z.f0 z.f1) <;> simp

theorem isTri_tells (n : Int) (l : List DG) (hl : l.length ≤ 4611686018427387904) : Ev (fun k => impl_IsTriangulation.f k n l) (isTriB n l) := by
 refine ⟨l.length + l.length + 5, fun k hk => ?_⟩
 obtain ⟨k, rfl⟩ : ∃ q, k = q + 1 := ⟨k - 1, by omega⟩
 show impl_IsTriangulation.f (k + 1) n l = _
 unfold impl_IsTriangulation.f isTriB goodD
 rw [isPolygon_tells, Option.bind_some]
 by_cases hn : 3 ≤ n ∧ n ≤ 12
 ·have w : wrap64 (n - 3) = n - 3 := by unfold wrap64; omega
  have h := impl_IsTriangulation_rounds n hn l hl l.length 0 k (by omega) (by omega)
  rw [show ((0 : Nat) : Int) = 0 from rfl] at h
  rw [decide_eq_true hn, if_pos rfl, w]
  simp only [impl_IsTriangulation.j0, h]
  by_cases hc : (l.length : Int) = n - 3
  ·rw [decide_eq_true hc, hc]
   simp
  ·rw [decide_eq_false hc]
   simp [hc]
 ·rw [decide_eq_false hn]
  simp [impl_IsTriangulation.j0]

theorem cnt_split {α : Type} (p q r : α → Bool) : ∀ l : List α, (∀ x ∈ l, p x = true → q x = true ∨ r x = true) → l.countP p ≤ l.countP q + l.countP r
 | [], _ => by simp
 | x :: l, h => by
  have ih := cnt_split p q r l (fun y hy => h y (List.mem_cons_of_mem _ hy))
  have hx := h x (List.mem_cons_self ..)
  simp only [List.countP_cons]
  cases hp : p x <;> cases hq : q x <;> cases hr : r x <;> simp_all <;> omega
theorem cnt_zero {α : Type} (p : α → Bool) (l : List α) (h : ∀ x ∈ l, p x = false) : l.countP p = 0 := by
 rw [List.countP_eq_zero]
 intro x hx
 simp [h x hx]
theorem last_of (P : Int → Prop) : ∀ (m : Nat) (lo hi : Int), hi - lo ≤ m → lo < hi → P lo → ∃ c, lo ≤ c ∧ c < hi ∧ P c ∧ ∀ c', c < c' → c' < hi → ¬ P c'
 | 0, lo, hi, h, h2, _ => by omega
 | m + 1, lo, hi, h, h2, hP => by
  by_cases hx : ∃ c, lo < c ∧ c < hi ∧ P c
  ·obtain ⟨c, h3, h4, h5⟩ := hx
   obtain ⟨e, h6, h7, h8, h9⟩ := last_of P m c hi (by omega) h4 h5
   exact ⟨e, by omega, h7, h8, h9⟩
  ·exact ⟨lo, by omega, h2, hP, fun c' h3 h4 h5 => hx ⟨c', h3, h4, h5⟩⟩

def hasD (l : List DG) (a b : Int) : Bool := l.any fun d => d.f0 == a && d.f1 == b
theorem hasD_of {l : List DG} {d : DG} (h : d ∈ l) : hasD l d.f0 d.f1 = true := List.any_eq_true.2 ⟨d, h, by simp⟩
theorem hasD_mem {l : List DG} {a b : Int} (h : hasD l a b = true) : ∃ d ∈ l, d.f0 = a ∧ d.f1 = b := by
 obtain ⟨d, h1, h2⟩ := List.any_eq_true.1 h
 simp only [Bool.and_eq_true, beq_iff_eq] at h2
 exact ⟨d, h1, h2⟩
def under (l : List DG) (i j : Int) : Nat := l.countP fun d => decide (i ≤ d.f0 ∧ d.f1 ≤ j)
def inner (l : List DG) (i j : Int) : Nat := l.countP fun d => decide (i ≤ d.f0 ∧ d.f1 ≤ j ∧ ¬ (d.f0 = i ∧ d.f1 = j))

structure Tri (n : Int) (l : List DG) : Prop where
 n3 : 3 ≤ n ∧ n ≤ 12
 len : (l.length : Int) = n - 3
 ok : ∀ d ∈ l, 0 ≤ d.f0 ∧ d.f1 ≤ n - 1 ∧ 2 ≤ d.f1 - d.f0 ∧ d.f1 - d.f0 ≤ n - 2
 nc : ∀ d ∈ l, ∀ e ∈ l, ¬ (d.f0 < e.f0 ∧ e.f0 < d.f1 ∧ d.f1 < e.f1)
 sorted : l.Pairwise fun d e => d.f0 < e.f0 ∨ (d.f0 = e.f0 ∧ d.f1 < e.f1)

theorem cnt_one (a b : Int) : ∀ l : List DG, (l.Pairwise fun d e => d.f0 < e.f0 ∨ (d.f0 = e.f0 ∧ d.f1 < e.f1)) → l.countP (fun d => decide (d.f0 = a ∧ d.f1 = b)) ≤ if hasD l a b = true then 1 else 0
 | [], _ => by simp
 | x :: l, h => by
  obtain ⟨h1, h2⟩ := List.pairwise_cons.1 h
  have ih := cnt_one a b l h2
  simp only [List.countP_cons]
  by_cases hx : x.f0 = a ∧ x.f1 = b
  ·have hz : l.countP (fun d => decide (d.f0 = a ∧ d.f1 = b)) = 0 := by
    apply cnt_zero
    intro y hy
    have := h1 y hy
    rw [decide_eq_false_iff_not]
    omega
   have hh : hasD (x :: l) a b = true := by
    rw [← hx.1, ← hx.2]
    exact hasD_of (List.mem_cons_self ..)
   rw [hz, if_pos hh]
   simp [hx]
  ·have hh : hasD (x :: l) a b = hasD l a b := by
    unfold hasD
    rw [List.any_cons]
    have : (x.f0 == a && x.f1 == b) = false := by
     rw [Bool.eq_false_iff]
     simpa using hx
    rw [this, Bool.false_or]
   rw [hh]
   simp only [hx, decide_false, Bool.false_eq_true, if_false]
   exact ih

theorem Tri.under_inner {n : Int} {l : List DG} (T : Tri n l) (i j : Int) : under l i j ≤ inner l i j + if hasD l i j = true then 1 else 0 := by
 have h1 := cnt_split (fun d : DG => decide (i ≤ d.f0 ∧ d.f1 ≤ j)) (fun d : DG => decide (i ≤ d.f0 ∧ d.f1 ≤ j ∧ ¬ (d.f0 = i ∧ d.f1 = j))) (fun d : DG => decide (d.f0 = i ∧ d.f1 = j)) l (fun x _ h => by
  simp only [decide_eq_true_eq] at h ⊢
  omega)
 have h2 := cnt_one i j l T.sorted
 unfold under inner
 omega

theorem Tri.half {n : Int} {l : List DG} (T : Tri n l) (a b : Int) (h1 : 1 ≤ b - a) (ih : 2 ≤ b - a → (inner l a b : Int) ≤ b - a - 2) :
  (under l a b : Int) ≤ b - a - 1 ∧ ((under l a b : Int) = b - a - 1 → b - a = 1 ∨ (hasD l a b = true ∧ 2 ≤ b - a ∧ (inner l a b : Int) = b - a - 2)) := by
 by_cases h2 : 2 ≤ b - a
 ·have h3 := ih h2
  have h4 := T.under_inner a b
  cases hh : hasD l a b
  ·rw [hh, if_neg (by simp)] at h4
   exact ⟨by omega, fun _ => by omega⟩
  ·rw [hh, if_pos rfl] at h4
   exact ⟨by omega, fun _ => .inr ⟨rfl, h2, by omega⟩⟩
 ·have hz : under l a b = 0 := by
   apply cnt_zero
   intro d hd
   have := T.ok d hd
   rw [decide_eq_false_iff_not]
   omega
  rw [hz]
  exact ⟨by omega, fun _ => .inl (by omega)⟩

theorem Tri.split {n : Int} {l : List DG} (T : Tri n l) (i j : Int) (h : 2 ≤ j - i) :
  ∃ c, i < c ∧ c < j ∧ ∀ d ∈ l, i ≤ d.f0 → d.f1 ≤ j → ¬ (d.f0 = i ∧ d.f1 = j) → d.f1 ≤ c ∨ c ≤ d.f0 := by
 obtain ⟨c, h1, h2, h3, h4⟩ := last_of (fun c => c = i + 1 ∨ hasD l i c = true) (j - (i + 1)).toNat (i + 1) j (by omega) (by omega) (.inl rfl)
 refine ⟨c, by omega, h2, fun d hd h5 h6 h7 => ?_⟩
 by_cases h8 : d.f1 ≤ c
 ·exact .inl h8
 ·by_cases h9 : c ≤ d.f0
  ·exact .inr h9
  ·exfalso
   by_cases e : d.f0 = i
   ·refine h4 d.f1 (by omega) (by omega) (.inr ?_)
    rw [← e]
    exact hasD_of hd
   ·rcases h3 with h3 | h3
    ·omega
    ·obtain ⟨x, hx, hx1, hx2⟩ := hasD_mem h3
     exact T.nc x hx d hd (by omega)

theorem inner_le (l : List DG) (i j c : Int) (h : ∀ d ∈ l, i ≤ d.f0 → d.f1 ≤ j → ¬ (d.f0 = i ∧ d.f1 = j) → d.f1 ≤ c ∨ c ≤ d.f0) : inner l i j ≤ under l i c + under l c j := by
 apply cnt_split
 intro d hd h1
 have h2 := h d hd
 simp only [decide_eq_true_eq] at h1 ⊢
 have h3 := h2 h1.1 h1.2.1 h1.2.2
 omega

theorem Tri.bound {n : Int} {l : List DG} (T : Tri n l) : ∀ (m : Nat) (i j : Int), j - i ≤ m → 2 ≤ j - i → (inner l i j : Int) ≤ j - i - 2
 | 0, i, j, h, h2 => by omega
 | m + 1, i, j, h, h2 => by
  obtain ⟨c, h3, h4, h5⟩ := T.split i j h2
  have h6 := inner_le l i j c h5
  have h7 := (T.half i c (by omega) (fun h => T.bound m i c (by omega) h)).1
  have h8 := (T.half c j (by omega) (fun h => T.bound m c j (by omega) h)).1
  omega

def Full (l : List DG) (i j : Int) : Prop := 2 ≤ j - i ∧ (inner l i j : Int) = j - i - 2

theorem Tri.apex {n : Int} {l : List DG} (T : Tri n l) (i j : Int) (hf : Full l i j) :
  ∃ c, i < c ∧ c < j ∧ (c - i = 1 ∨ (hasD l i c = true ∧ Full l i c)) ∧ (j - c = 1 ∨ (hasD l c j = true ∧ Full l c j)) ∧
   ∀ d ∈ l, i ≤ d.f0 → d.f1 ≤ j → ¬ (d.f0 = i ∧ d.f1 = j) → d.f1 ≤ c ∨ c ≤ d.f0 := by
 obtain ⟨h2, hf⟩ := hf
 obtain ⟨c, h3, h4, h5⟩ := T.split i j h2
 have h6 := inner_le l i j c h5
 obtain ⟨h7, g7⟩ := T.half i c (by omega) (fun h => T.bound (c - i).toNat i c (by omega) h)
 obtain ⟨h8, g8⟩ := T.half c j (by omega) (fun h => T.bound (j - c).toNat c j (by omega) h)
 exact ⟨c, h3, h4, g7 (by omega), g8 (by omega), h5⟩

/-- Two corners are joined: by a side or by a diagonal. -/
def J (n : Int) (l : List DG) (a b : Int) : Prop := b = a + 1 ∨ (a = 0 ∧ b = n - 1) ∨ hasD l a b = true

theorem J.of {n : Int} {l : List DG} {a b : Int} {P : Prop} (h : b - a = 1 ∨ (hasD l a b = true ∧ P)) : J n l a b := by
 rcases h with h | h
 ·exact .inl (by omega)
 ·exact .inr (.inr h.1)

theorem Tri.reach {n : Int} {l : List DG} (T : Tri n l) : ∀ (m : Nat) (i j : Int), j - i ≤ m → Full l i j → 0 ≤ i → j ≤ n - 1 → J n l i j → ∀ d ∈ l, i ≤ d.f0 → d.f1 ≤ j → ¬ (d.f0 = i ∧ d.f1 = j) →
  (∃ c, d.f0 < c ∧ c < d.f1 ∧ J n l d.f0 c ∧ J n l c d.f1) ∧ ∃ o, 0 ≤ o ∧ o ≤ n - 1 ∧ ((o < d.f0 ∧ J n l o d.f0 ∧ J n l o d.f1) ∨ (d.f1 < o ∧ J n l d.f0 o ∧ J n l d.f1 o))
 | 0, i, j, h, hf, _, _, _, d, _, _, _, _ => by have := hf.1; omega
 | m + 1, i, j, h, hf, hi, hj, hJ, d, hd, h1, h2, h3 => by
  obtain ⟨c, c1, c2, c3, c4, c5⟩ := T.apex i j hf
  have hok := T.ok d hd
  rcases c5 d hd h1 h2 h3 with h4 | h4
  ·rcases c3 with c3 | ⟨c3, f3⟩
   ·omega
   ·by_cases e : d.f0 = i ∧ d.f1 = c
    ·obtain ⟨e1, e2⟩ := e
     obtain ⟨x, x1, x2, x3, x4, _⟩ := T.apex i c f3
     rw [e1, e2]
     exact ⟨⟨x, x1, x2, J.of x3, J.of x4⟩, j, by omega, hj, .inr ⟨by omega, hJ, J.of c4⟩⟩
    ·exact T.reach m i c (by omega) f3 hi (by omega) (.inr (.inr c3)) d hd h1 h4 e
  ·rcases c4 with c4 | ⟨c4, f4⟩
   ·omega
   ·by_cases e : d.f0 = c ∧ d.f1 = j
    ·obtain ⟨e1, e2⟩ := e
     obtain ⟨x, x1, x2, x3, x4, _⟩ := T.apex c j f4
     rw [e1, e2]
     exact ⟨⟨x, x1, x2, J.of x3, J.of x4⟩, i, by omega, by omega, .inl ⟨by omega, J.of c3, hJ⟩⟩
    ·exact T.reach m c j (by omega) f4 (by omega) hj (.inr (.inr c4)) d hd h4 h2 e

theorem Tri.jcross {n : Int} {l : List DG} (T : Tri n l) {a b c d : Int} (h1 : J n l a b) (h2 : J n l c d) (ha : 0 ≤ a) (hd : d ≤ n - 1) : ¬ (a < c ∧ c < b ∧ b < d) := by
 intro h
 rcases h1 with h1 | h1 | h1
 ·omega
 ·omega
 ·rcases h2 with h2 | h2 | h2
  ·omega
  ·omega
  ·obtain ⟨x, hx, x1, x2⟩ := hasD_mem h1
   obtain ⟨y, hy, y1, y2⟩ := hasD_mem h2
   exact T.nc x hx y hy (by omega)

/-- The two corners with which the ends of a diagonal are joined: one inside, one outside, and no other. -/
theorem Tri.two {n : Int} {l : List DG} (T : Tri n l) (d : DG) (hd : d ∈ l) : ∃ x o, d.f0 < x ∧ x < d.f1 ∧ 0 ≤ o ∧ o ≤ n - 1 ∧ (o < d.f0 ∨ d.f1 < o) ∧
  (J n l d.f0 x ∧ J n l x d.f1) ∧ (J n l (min o d.f0) (max o d.f0) ∧ J n l (min o d.f1) (max o d.f1)) ∧
  ∀ c, 0 ≤ c → c ≤ n - 1 → c ≠ d.f0 → c ≠ d.f1 → (J n l (min c d.f0) (max c d.f0) ∧ J n l (min c d.f1) (max c d.f1)) → c = x ∨ c = o := by
 have hok := T.ok d hd
 have hn := T.n3
 have hfull : Full l 0 (n - 1) := by
  refine ⟨by omega, ?_⟩
  have : inner l 0 (n - 1) = l.length := by
   unfold inner
   rw [List.countP_eq_length]
   intro e he
   have := T.ok e he
   rw [decide_eq_true_eq]
   omega
  rw [this, T.len]
  omega
 obtain ⟨⟨x, x1, x2, x3, x4⟩, o, o1, o2, o3⟩ := T.reach (n - 1).toNat 0 (n - 1) (by omega) hfull (by omega) (by omega) (.inr (.inl ⟨rfl, rfl⟩)) d hd (by omega) (by omega) (by omega)
 refine ⟨x, o, x1, x2, o1, o2, by omega, ⟨x3, x4⟩, ?_, ?_⟩
 ·rcases o3 with ⟨h, h5, h6⟩ | ⟨h, h5, h6⟩
  ·rw [Int.min_eq_left (by omega), Int.max_eq_right (by omega), Int.min_eq_left (by omega), Int.max_eq_right (by omega)]
   exact ⟨h5, h6⟩
  ·rw [Int.min_eq_right (by omega), Int.max_eq_left (by omega), Int.min_eq_right (by omega), Int.max_eq_left (by omega)]
   exact ⟨h5, h6⟩
 ·intro c c1 c2 c3 c4 ⟨j1, j2⟩
  by_cases hx : c = x
  ·exact .inl hx
  ·by_cases ho : c = o
   ·exact .inr ho
   ·exfalso
    by_cases hin : d.f0 < c ∧ c < d.f1
    ·rw [Int.min_eq_right (by omega), Int.max_eq_left (by omega)] at j1
     rw [Int.min_eq_left (by omega), Int.max_eq_right (by omega)] at j2
     by_cases hlt : c < x
     ·exact T.jcross x3 j2 (by omega) (by omega) (by omega)
     ·exact T.jcross j1 x4 (by omega) (by omega) (by omega)
    ·rcases o3 with ⟨h, h5, h6⟩ | ⟨h, h5, h6⟩
     ·by_cases hc : c < d.f0
      ·rw [Int.min_eq_left (by omega), Int.max_eq_right (by omega)] at j1
       rw [Int.min_eq_left (by omega), Int.max_eq_right (by omega)] at j2
       by_cases hlt : c < o
       ·exact T.jcross j1 h6 (by omega) (by omega) (by omega)
       ·exact T.jcross h5 j2 (by omega) (by omega) (by omega)
      ·rw [Int.min_eq_right (by omega), Int.max_eq_left (by omega)] at j1
       exact T.jcross h6 j1 (by omega) (by omega) (by omega)
     ·by_cases hc : c < d.f0
      ·rw [Int.min_eq_left (by omega), Int.max_eq_right (by omega)] at j2
       exact T.jcross j2 h5 (by omega) (by omega) (by omega)
      ·rw [Int.min_eq_right (by omega), Int.max_eq_left (by omega)] at j1
       rw [Int.min_eq_right (by omega), Int.max_eq_left (by omega)] at j2
       by_cases hlt : c < o
       ·exact T.jcross j1 h6 (by omega) (by omega) (by omega)
       ·exact T.jcross h5 j2 (by omega) (by omega) (by omega)

theorem pair_chain (l : List DG) (h : ∀ j, 0 < j → j < l.length → (rD l (j - 1)).f0 < (rD l j).f0 ∨ ((rD l (j - 1)).f0 = (rD l j).f0 ∧ (rD l (j - 1)).f1 < (rD l j).f1)) : l.Pairwise fun d e => d.f0 < e.f0 ∨ (d.f0 = e.f0 ∧ d.f1 < e.f1) := by
 induction l with
 | nil => exact List.Pairwise.nil
 | cons x l ih =>
  have h' := ih (fun j j1 j2 => by
   have := h (j + 1) (by omega) (by simpa using j2)
   rw [show j + 1 - 1 = (j - 1) + 1 by omega] at this
   simpa [rD, rd_T38] using this)
  refine List.pairwise_cons.2 ⟨?_, h'⟩
  intro y hy
  cases l with
  | nil => cases hy
  | cons z l =>
   have h0 := h 1 (by omega) (by simp)
   have h1 : x.f0 < z.f0 ∨ (x.f0 = z.f0 ∧ x.f1 < z.f1) := by simpa [rD, rd_T38] using h0
   rcases List.mem_cons.1 hy with e | e
   ·rw [e]
    exact h1
   ·have := (List.pairwise_cons.1 h').1 y e
    omega

theorem rD_get (l : List DG) (j : Nat) (h : j < l.length) : rD l j = l[j] := by
 unfold rD rd_T38
 rw [Int.toNat_natCast, List.getD_eq_getElem?_getD, List.getElem?_eq_getElem h]
 rfl

theorem tri_of (n : Int) (l : List DG) (h : isTriB n l = true) : Tri n l := by
 unfold isTriB goodD at h
 simp only [Bool.and_eq_true, decide_eq_true_eq, List.all_eq_true] at h
 obtain ⟨hn, hl, hs⟩ := h
 have hst : ∀ j, j < l.length → stepD n l j = true := fun j hj => hs j (List.mem_range'_1.2 ⟨by omega, by omega⟩)
 have hok : ∀ d ∈ l, 0 ≤ d.f0 ∧ d.f1 ≤ n - 1 ∧ 2 ≤ d.f1 - d.f0 ∧ d.f1 - d.f0 ≤ n - 2 := by
  intro d hd
  obtain ⟨j, hj, e⟩ := List.getElem_of_mem hd
  have h1 := hst j hj
  rw [stepD_def, rD_get l j hj, e] at h1
  simp only [Bool.and_eq_true, diagB, decide_eq_true_eq] at h1
  omega
 have hnc : ∀ (j : Nat) (hj : j < l.length) (i : Nat) (hi : i < j), crossB l[j].f0 l[j].f1 l[i].f0 l[i].f1 = false := by
  intro j hj i hi
  have h1 := hst j hj
  rw [stepD_def, rD_get l j hj] at h1
  simp only [Bool.and_eq_true, Bool.not_eq_true'] at h1
  have h2 := List.any_eq_false.1 h1.2.2 l[i] (by
   rw [List.mem_take_iff_getElem]
   exact ⟨i, by omega, rfl⟩)
  simpa using h2
 refine ⟨hn, hl, hok, ?_, pair_chain l ?_⟩
 ·intro d hd e he hx
  obtain ⟨i, hi, e1⟩ := List.getElem_of_mem hd
  obtain ⟨j, hj, e2⟩ := List.getElem_of_mem he
  subst e1 e2
  rcases Nat.lt_trichotomy i j with h1 | h1 | h1
  ·have := hnc j hj i h1
   simp only [crossB, Bool.or_eq_false_iff, decide_eq_false_iff_not] at this
   omega
  ·subst h1
   omega
  ·have := hnc i hi j h1
   simp only [crossB, Bool.or_eq_false_iff, decide_eq_false_iff_not] at this
   omega
 ·intro j j1 j2
  have h1 := hst j j2
  rw [stepD_def] at h1
  have b0 : (j == 0) = false := by rw [beq_eq_false_iff_ne]; omega
  rw [b0] at h1
  simp only [Bool.and_eq_true, Bool.false_or, lessB, decide_eq_true_eq] at h1
  exact h1.2.1

theorem least_tells (a b : Int) : spec_l1Least.f a b = some (min a b) := by
 unfold spec_l1Least.f
 split <;> congr 1 <;> omega
theorem most_tells (a b : Int) : spec_l1Most.f a b = some (max a b) := by
 unfold spec_l1Most.f
 split <;> congr 1 <;> omega

def joinB (n : Int) (l : List DG) (a b : Int) : Bool := decide (b = a + 1) || (decide (a = 0 ∧ b = n - 1) || hasD l a b)
theorem J_iff (n : Int) (l : List DG) (a b : Int) : J n l a b ↔ joinB n l a b = true := by
 unfold J joinB
 simp only [Bool.or_eq_true, decide_eq_true_eq]
def apB (n : Int) (l : List DG) (a b c : Int) : Bool := joinB n l (min c a) (max c a) && joinB n l (min c b) (max c b)

theorem poJoined_rounds (l : List DG) (a b : Int) (hl : l.length ≤ 4611686018427387904) (e : Nat) : ∀ (i k : Nat), i + e = l.length → e < k →
  spec_poJoined.l0 k a b l (l.length : Int) (i : Int) = some ((l.drop i).any fun d => d.f0 == a && d.f1 == b) := by
 induction e with
 | zero =>
  intro i k hi hk
  obtain ⟨k, rfl⟩ : ∃ q, k = q + 1 := ⟨k - 1, by omega⟩
  simp only [spec_poJoined.l0]
  rw [if_neg (by omega), List.drop_of_length_le (by omega)]
  rfl
 | succ e ih =>
  intro i k hi hk
  obtain ⟨k, rfl⟩ : ∃ q, k = q + 1 := ⟨k - 1, by omega⟩
  simp only [spec_poJoined.l0]
  rw [if_pos (by omega), if_pos (by omega), if_pos (by omega), wrap_succ i (by omega), ih (i + 1) k (by omega) (by omega), any_take_step _ l i (by omega)]
  by_cases h1 : (rD l i).f0 = a
  ·by_cases h2 : (rD l i).f1 = b
   ·rw [if_pos h1, if_pos h2]
    simp [h1, h2]
   ·rw [if_pos h1, if_neg h2]
    simp [h1, h2]
  ·rw [if_neg h1]
   simp [h1]
theorem poJoined_tells (n : Int) (l : List DG) (a b : Int) (hn : 3 ≤ n ∧ n ≤ 12) (hl : l.length ≤ 4611686018427387904) (ha : 0 ≤ a) (hab : a < b) (hb : b ≤ n - 1) (k : Nat) (hk : l.length + 1 < k) : spec_poJoined.f k n l a b = some (joinB n l a b) := by
 obtain ⟨k, rfl⟩ : ∃ q, k = q + 1 := ⟨k - 1, by omega⟩
 have w1 : wrap64 (b - a) = b - a := by unfold wrap64; omega
 have w2 : wrap64 (n - 1) = n - 1 := by unfold wrap64; omega
 have hr := poJoined_rounds l a b hl l.length 0 k (by omega) (by omega)
 rw [show ((0 : Nat) : Int) = 0 from rfl, List.drop_zero] at hr
 unfold spec_poJoined.f joinB
 simp only [w1, w2, spec_poJoined.j0, hr]
 by_cases h1 : b - a = 1
 ·rw [if_pos h1, decide_eq_true (show b = a + 1 by omega)]
  rfl
 ·rw [if_neg h1, decide_eq_false (show ¬ b = a + 1 by omega), Bool.false_or]
  by_cases h2 : b - a = n - 1
  ·rw [decide_eq_true (show a = 0 ∧ b = n - 1 by omega), h2]
   simp
  ·rw [decide_eq_false (show ¬ (a = 0 ∧ b = n - 1) by omega), Bool.false_or]
   have : (b - a == n - 1) = false := by simpa using h2
   rw [this]
   rfl

theorem flOther_rounds (n : Int) (l : List DG) (a b p q : Int) (hn : 3 ≤ n ∧ n ≤ 12) (hl : l.length ≤ 4611686018427387904) (ha : 0 ≤ a ∧ a ≤ n - 1) (hb : 0 ≤ b ∧ b ≤ n - 1) (hp : 0 ≤ p) (hpq : p < q) (hq : q ≤ n - 1)
  (h1 : p ≠ a) (h2 : p ≠ b) (h3 : q ≠ a) (h4 : q ≠ b) (hap : ∀ c, 0 ≤ c → c ≤ n - 1 → c ≠ a → c ≠ b → (apB n l a b c = true ↔ c = p ∨ c = q)) (e : Nat) :
  ∀ (c : Int), 0 ≤ c → c + e = n → ∀ k, 3 * e + l.length + 5 < k → spec_flOther.l0 k n l c a b (if c ≤ p then -1 else p) (if c ≤ q then -1 else q) = some (p, q) := by
 induction e with
 | zero =>
  intro c hc he k hk
  obtain ⟨k, rfl⟩ : ∃ z, k = z + 1 := ⟨k - 1, by omega⟩
  simp only [spec_flOther.l0]
  rw [if_neg (by omega), if_neg (by omega), if_neg (by omega)]
 | succ e ih =>
  intro c hc he k hk
  obtain ⟨k, rfl⟩ : ∃ z, k = z + 3 := ⟨k - 3, by omega⟩
  have w : wrap64 (c + 1) = c + 1 := by unfold wrap64; omega
  have hih := ih (c + 1) (by omega) (by omega)
  have skip : ∀ k', 3 * e + l.length + 5 < k' → c ≠ p → c ≠ q → spec_flOther.l0 k' n l (c + 1) a b (if c ≤ p then -1 else p) (if c ≤ q then -1 else q) = some (p, q) := by
   intro k' hk' hcp hcq
   have := hih k' hk'
   by_cases x1 : c ≤ p
   ·rw [if_pos x1]
    rw [if_pos (by omega)] at this
    by_cases x2 : c ≤ q
    ·rw [if_pos x2]
     rw [if_pos (by omega)] at this
     exact this
    ·omega
   ·rw [if_neg x1]
    rw [if_neg (by omega)] at this
    by_cases x2 : c ≤ q
    ·rw [if_pos x2]
     rw [if_pos (by omega)] at this
     exact this
    ·rw [if_neg x2]
     rw [if_neg (by omega)] at this
     exact this
  simp only [spec_flOther.l0]
  rw [if_pos (by omega)]
  by_cases e1 : c = a
  ·rw [if_pos e1]
   simp only [spec_flOther.j1, if_true, w]
   exact skip _ (by omega) (by omega) (by omega)
  ·rw [if_neg e1]
   by_cases e2 : c = b
   ·rw [e2, beq_self_eq_true]
    rw [e2] at skip w
    simp only [spec_flOther.j1, if_true, w]
    exact skip _ (by omega) (by omega) (by omega)
   ·have : (c == b) = false := by simpa using e2
    rw [this]
    have hj1 := poJoined_tells n l (min c a) (max c a) hn hl (by omega) (by omega) (by omega) (k + 1) (by omega)
    have hj2 := poJoined_tells n l (min c b) (max c b) hn hl (by omega) (by omega) (by omega) (k + 1) (by omega)
    have hc2 := hap c hc (by omega) e1 e2
    simp only [spec_flOther.j1, Bool.false_eq_true, if_false, least_tells, most_tells, Option.bind_some, hj1, hj2]
    unfold apB at hc2
    cases b1 : joinB n l (min c a) (max c a)
    ·rw [b1] at hc2
     simp only [Bool.false_and, Bool.false_eq_true, false_iff, not_or] at hc2
     simp only [Bool.false_eq_true, if_false, spec_flOther.j2, if_true, w]
     exact skip _ (by omega) hc2.1 hc2.2
    ·rw [b1] at hc2
     cases b2 : joinB n l (min c b) (max c b)
     ·rw [b2] at hc2
      simp only [Bool.and_false, Bool.false_eq_true, false_iff, not_or] at hc2
      simp only [Bool.not_false, if_true, spec_flOther.j2, w]
      exact skip _ (by omega) hc2.1 hc2.2
     ·rw [b2] at hc2
      simp only [Bool.and_true, true_iff] at hc2
      simp only [Bool.not_true, if_true, spec_flOther.j2, w, Bool.false_eq_true, if_false]
      have := hih k (by omega)
      rcases hc2 with hc2 | hc2
      ·rw [if_pos (by omega), if_pos (by omega)]
       rw [if_neg (by omega), if_pos (by omega)] at this
       rw [hc2] at this ⊢
       exact this
      ·rw [if_neg (show ¬ c ≤ p by omega), if_neg (by omega)]
       rw [if_neg (by omega), if_neg (by omega)] at this
       rw [hc2] at this ⊢
       exact this

theorem Tri.apex2 {n : Int} {l : List DG} (T : Tri n l) (d : DG) (hd : d ∈ l) : ∃ x o, d.f0 < x ∧ x < d.f1 ∧ 0 ≤ o ∧ o ≤ n - 1 ∧ (o < d.f0 ∨ d.f1 < o) ∧
  ∀ c, 0 ≤ c → c ≤ n - 1 → c ≠ d.f0 → c ≠ d.f1 → (apB n l d.f0 d.f1 c = true ↔ c = x ∨ c = o) := by
 obtain ⟨x, o, x1, x2, o1, o2, o3, ⟨jx1, jx2⟩, ⟨jo1, jo2⟩, hu⟩ := T.two d hd
 refine ⟨x, o, x1, x2, o1, o2, o3, fun c c1 c2 c3 c4 => ?_⟩
 unfold apB
 rw [Bool.and_eq_true, ← J_iff, ← J_iff]
 constructor
 ·exact hu c c1 c2 c3 c4
 ·rintro (rfl | rfl)
  ·rw [Int.min_eq_right (by omega), Int.max_eq_left (by omega), Int.min_eq_left (by omega), Int.max_eq_right (by omega)]
   exact ⟨jx1, jx2⟩
  ·exact ⟨jo1, jo2⟩

theorem Tri.small {n : Int} {l : List DG} (T : Tri n l) : l.length ≤ 9 := by
 have := T.len
 have := T.n3
 omega

theorem flOther_tells {n : Int} {l : List DG} (T : Tri n l) (d : DG) (hd : d ∈ l) (x o : Int) (x1 : d.f0 < x) (x2 : x < d.f1) (o1 : 0 ≤ o) (o2 : o ≤ n - 1) (o3 : o < d.f0 ∨ d.f1 < o)
  (hap : ∀ c, 0 ≤ c → c ≤ n - 1 → c ≠ d.f0 → c ≠ d.f1 → (apB n l d.f0 d.f1 c = true ↔ c = x ∨ c = o)) (k : Nat) (hk : 60 < k) : spec_flOther.f k n l d.f0 d.f1 = some (min x o, max x o) := by
 have hn := T.n3
 have hok := T.ok d hd
 have hs := T.small
 have h := flOther_rounds n l d.f0 d.f1 (min x o) (max x o) hn (by omega) (by omega) (by omega) (by omega) (by omega) (by omega) (by omega) (by omega) (by omega) (by omega) (fun c c1 c2 c3 c4 => by
  rw [hap c c1 c2 c3 c4]
  omega) n.toNat 0 (by omega) (by omega) k (by omega)
 rw [if_pos (by omega), if_pos (by omega)] at h
 exact h

theorem contD_rounds (l : List DG) (a b : Int) (hl : l.length ≤ 4611686018427387904) (e : Nat) : ∀ (i k : Nat), i + e = l.length → e < k →
  ∃ r, impl_Diagonal_46.l0 k l (l.length : Int) (i : Int) a b = some r ∧ (r ≥ 0 ↔ ((l.drop i).any fun d => d.f0 == a && d.f1 == b) = true) := by
 induction e with
 | zero =>
  intro i k hi hk
  obtain ⟨k, rfl⟩ : ∃ q, k = q + 1 := ⟨k - 1, by omega⟩
  simp only [impl_Diagonal_46.l0]
  rw [if_neg (by omega), List.drop_of_length_le (by omega)]
  exact ⟨-1, rfl, by simp⟩
 | succ e ih =>
  intro i k hi hk
  obtain ⟨k, rfl⟩ : ∃ q, k = q + 1 := ⟨k - 1, by omega⟩
  obtain ⟨r, hr, hr2⟩ := ih (i + 1) k (by omega) (by omega)
  simp only [impl_Diagonal_46.l0]
  rw [if_pos (by omega), if_pos (by omega), if_pos (by omega), wrap_succ i (by omega), hr, any_take_step _ l i (by omega), BEq.comm (a := a), BEq.comm (a := b)]
  cases hc : ((rD l i).f0 == a && (rD l i).f1 == b) with
  | true => exact ⟨i, rfl, by simp⟩
  | false => exact ⟨r, rfl, by rw [Bool.false_or]; exact hr2⟩
theorem contD_tells (l : List DG) (a b : Int) (hl : l.length ≤ 4611686018427387904) (k : Nat) (hk : l.length < k) : impl_Diagonal_90.f k l a b = some (hasD l a b) := by
 obtain ⟨r, hr, hr2⟩ := contD_rounds l a b hl l.length 0 k (by omega) hk
 unfold impl_Diagonal_90.f impl_Diagonal_46.f
 rw [show ((0 : Nat) : Int) = 0 from rfl] at hr
 rw [hr, Option.bind_some]
 congr 1
 rw [Bool.eq_iff_iff, decide_eq_true_iff, hr2, List.drop_zero]
 rfl

theorem isSide_tells (n : Int) (l : List DG) (a b : Int) (hn : 3 ≤ n ∧ n ≤ 12) (hl : l.length ≤ 4611686018427387904) (ha : 0 ≤ a) (hab : a < b) (hb : b ≤ n - 1) (k : Nat) (hk : l.length < k) : impl_isSide.f k n l a b = some (joinB n l a b) := by
 have m1 : mn a b = a := by unfold mn; rw [if_neg (by omega)]
 have m2 : mx a b = b := by unfold mx; rw [if_pos (by omega)]
 have w1 : wrap64 (a + 1) = a + 1 := by unfold wrap64; omega
 have w2 : wrap64 (n - 1) = n - 1 := by unfold wrap64; omega
 unfold impl_isSide.f joinB
 rw [m1, m2, w1, w2, contD_tells l a b hl k hk]
 simp only [Option.bind_some]
 by_cases h1 : b = a + 1
 ·rw [if_pos h1, decide_eq_true h1]
  rfl
 ·rw [if_neg h1, decide_eq_false h1, Bool.false_or]
  by_cases h2 : a = 0
  ·rw [if_pos h2]
   by_cases h3 : b = n - 1
   ·rw [if_pos h3, decide_eq_true (⟨h2, h3⟩ : a = 0 ∧ b = n - 1)]
    rfl
   ·rw [if_neg h3, decide_eq_false (fun h : a = 0 ∧ b = n - 1 => h3 h.2), Bool.false_or]
  ·rw [if_neg h2, decide_eq_false (fun h : a = 0 ∧ b = n - 1 => h2 h.1), Bool.false_or]

def triB (n : Int) (l : List DG) (a b c : Int) : Bool := joinB n l a b && (joinB n l b c && joinB n l a c)
def T2 (n : Int) (l : List DG) (a b : Nat) (c e : Nat) : List (List Int) := ((List.range' c e).filter fun (c : Nat) => triB n l a b c).map fun (c : Nat) => [(a : Int), (b : Int), (c : Int)]
def T1 (n : Int) (l : List DG) (N a : Nat) (b e : Nat) : List (List Int) := (List.range' b e).flatMap fun (b : Nat) => T2 n l a b (b + 1) (N - (b + 1))
def T0 (n : Int) (l : List DG) (N : Nat) (a e : Nat) : List (List Int) := (List.range' a e).flatMap fun (a : Nat) => T1 n l N a (a + 1) (N - (a + 1))
theorem T2_len (n : Int) (l : List DG) (a b c e : Nat) : (T2 n l a b c e).length ≤ e := by
 unfold T2
 rw [List.length_map]
 exact Nat.le_trans (List.length_filter_le ..) (by rw [List.length_range']; exact Nat.le_refl _)
theorem T1_len (n : Int) (l : List DG) (N a : Nat) (h : N ≤ 12) (e : Nat) : ∀ b, (T1 n l N a b e).length ≤ 12 * e := by
 induction e with
 | zero => intro b; simp [T1]
 | succ e ih =>
  intro b
  have h1 := ih (b + 1)
  have h2 := T2_len n l a b (b + 1) (N - (b + 1))
  unfold T1 at h1 ⊢
  rw [List.range'_succ, List.flatMap_cons, List.length_append]
  omega

theorem tri_l2 (n : Int) (l : List DG) (N a b : Nat) (hN : (N : Int) = n) (hn : 3 ≤ n ∧ n ≤ 12) (hl : l.length ≤ 9) (hab : a < b) (hb : b < N) (x10 : Int) (r : Option (List (List Int))) (e : Nat) :
  ∀ (c : Nat) (acc : List (List Int)) (K : Nat), b < c → c + e = N → acc.length + e ≤ 5000 → (∀ k, K ≤ k → impl_triangles.l1 k n l (acc ++ T2 n l a b c e) (a : Int) ((b : Int) + 1) x10 (a : Int) = r) →
  ∀ k, K + e + 10 < k → impl_triangles.l2 k n l acc (a : Int) (b : Int) (c : Int) x10 (a : Int) = r := by
 induction e with
 | zero =>
  intro c acc K hc he hacc h k hk
  obtain ⟨k, rfl⟩ : ∃ q, k = q + 1 := ⟨k - 1, by omega⟩
  have w : wrap64 ((b : Int) + 1) = (b : Int) + 1 := by unfold wrap64; omega
  simp only [impl_triangles.l2]
  rw [if_neg (by omega), w]
  have := h k (by omega)
  simpa [T2] using this
 | succ e ih =>
  intro c acc K hc he hacc h k hk
  obtain ⟨k, rfl⟩ : ∃ q, k = q + 1 := ⟨k - 1, by omega⟩
  have hl' : l.length ≤ 4611686018427387904 := by omega
  have hlk : l.length < k := by omega
  have a0 : (0 : Int) ≤ (a : Int) := by omega
  have b0 : (0 : Int) ≤ (b : Int) := by omega
  have hab' : (a : Int) < (b : Int) := by omega
  have hbc' : (b : Int) < (c : Int) := by omega
  have hac' : (a : Int) < (c : Int) := by omega
  have hb' : (b : Int) ≤ n - 1 := by omega
  have hc' : (c : Int) ≤ n - 1 := by omega
  have s1 := isSide_tells n l a b hn hl' a0 hab' hb' k hlk
  have s2 := isSide_tells n l b c hn hl' b0 hbc' hc' k hlk
  have s3 := isSide_tells n l a c hn hl' a0 hac' hc' k hlk
  have hT : T2 n l a b c (e + 1) = (if triB n l a b c = true then [[(a : Int), (b : Int), (c : Int)]] else []) ++ T2 n l a b (c + 1) e := by
   unfold T2
   rw [List.range'_succ, List.filter_cons]
   split <;> rfl
  rw [hT] at h
  simp only [impl_triangles.l2]
  rw [if_pos (by omega), s1, s2, s3, show wrap64 ((c : Int) + 1) = ((c + 1 : Nat) : Int) from wrap_succ c (by omega)]
  clear s1 s2 s3
  simp only [Option.bind_some]
  have skip : triB n l a b c = false → impl_triangles.l2 k n l acc (a : Int) (b : Int) ((c + 1 : Nat) : Int) x10 (a : Int) = r := by
   intro hf
   rw [hf] at h
   exact ih (c + 1) acc K (by omega) (by omega) (by omega) (by simpa using h) k (by omega)
  unfold triB at skip h
  cases b1 : joinB n l a b
  ·rw [b1] at skip
   simpa using skip
  ·cases b2 : joinB n l b c
   ·rw [b1, b2] at skip
    simpa using skip
   ·cases b3 : joinB n l a c
    ·rw [b1, b2, b3] at skip
     simpa using skip
    ·rw [b1, b2, b3] at h
     simp only [if_true]
     rw [if_pos (by omega)]
     refine ih (c + 1) _ K (by omega) (by omega) (by rw [List.length_append]; simp; omega) ?_ k (by omega)
     simpa using h

theorem tri_l1 (n : Int) (l : List DG) (N a : Nat) (hN : (N : Int) = n) (hn : 3 ≤ n ∧ n ≤ 12) (hl : l.length ≤ 9) (x10 : Int) (r : Option (List (List Int))) (e : Nat) :
  ∀ (b : Nat) (acc : List (List Int)) (K : Nat), a < b → b + e = N → acc.length + 12 * e ≤ 4000 → (∀ k, K ≤ k → impl_triangles.l0 k n l (acc ++ T1 n l N a b e) x10 ((a : Int) + 1) = r) →
  ∀ k, K + 40 * e + 10 < k → impl_triangles.l1 k n l acc (a : Int) (b : Int) x10 (a : Int) = r := by
 induction e with
 | zero =>
  intro b acc K hb he hacc h k hk
  obtain ⟨k, rfl⟩ : ∃ q, k = q + 1 := ⟨k - 1, by omega⟩
  have w : wrap64 ((a : Int) + 1) = (a : Int) + 1 := by unfold wrap64; omega
  simp only [impl_triangles.l1]
  rw [if_neg (by omega), w]
  have := h k (by omega)
  simpa [T1] using this
 | succ e ih =>
  intro b acc K hb he hacc h k hk
  obtain ⟨k, rfl⟩ : ∃ q, k = q + 1 := ⟨k - 1, by omega⟩
  have w : wrap64 ((b : Int) + 1) = ((b + 1 : Nat) : Int) := by unfold wrap64; omega
  have hT : T1 n l N a b (e + 1) = T2 n l a b (b + 1) (N - (b + 1)) ++ T1 n l N a (b + 1) e := by
   unfold T1
   rw [List.range'_succ, List.flatMap_cons]
  have hlen := T2_len n l a b (b + 1) (N - (b + 1))
  rw [hT, ← List.append_assoc] at h
  simp only [impl_triangles.l1]
  rw [if_pos (by omega), w]
  refine tri_l2 n l N a b hN hn hl hb (by omega) x10 r (N - (b + 1)) (b + 1) acc (K + 40 * e + 11) (by omega) (by omega) (by omega) ?_ k (by omega)
  intro k' hk'
  exact ih (b + 1) _ K (by omega) (by omega) (by rw [List.length_append]; omega) h k' (by omega)

theorem tri_l0 (n : Int) (l : List DG) (N : Nat) (hN : (N : Int) = n) (hn : 3 ≤ n ∧ n ≤ 12) (hl : l.length ≤ 9) (e : Nat) :
  ∀ (a : Nat) (acc : List (List Int)), a + e = N → acc.length + 150 * e ≤ 3000 → ∀ k, 1000 * e + 10 < k → impl_triangles.l0 k n l acc n (a : Int) = some (acc ++ T0 n l N a e) := by
 induction e with
 | zero =>
  intro a acc he hacc k hk
  obtain ⟨k, rfl⟩ : ∃ q, k = q + 1 := ⟨k - 1, by omega⟩
  simp only [impl_triangles.l0]
  rw [if_neg (by omega)]
  simp [T0]
 | succ e ih =>
  intro a acc he hacc k hk
  obtain ⟨k, rfl⟩ : ∃ q, k = q + 1 := ⟨k - 1, by omega⟩
  have w : wrap64 ((a : Int) + 1) = ((a + 1 : Nat) : Int) := by unfold wrap64; omega
  have hT : T0 n l N a (e + 1) = T1 n l N a (a + 1) (N - (a + 1)) ++ T0 n l N (a + 1) e := by
   unfold T0
   rw [List.range'_succ, List.flatMap_cons]
  have hlen := T1_len n l N a (by omega) (N - (a + 1)) (a + 1)
  rw [hT, ← List.append_assoc]
  simp only [impl_triangles.l0]
  rw [if_pos (by omega), w]
  refine tri_l1 n l N a hN hn hl n _ (N - (a + 1)) (a + 1) acc (1000 * e + 11) (by omega) (by omega) (by omega) ?_ k (by omega)
  intro k' hk'
  have := ih (a + 1) (acc ++ T1 n l N a (a + 1) (N - (a + 1))) (by omega) (by rw [List.length_append]; omega) k' (by omega)
  exact this

theorem T0_mem (n : Int) (l : List DG) (N : Nat) (t : List Int) : t ∈ T0 n l N 0 N ↔ ∃ a b c : Nat, a < b ∧ b < c ∧ c < N ∧ triB n l a b c = true ∧ t = [(a : Int), (b : Int), (c : Int)] := by
 unfold T0 T1 T2
 simp only [List.mem_flatMap, List.mem_range'_1, List.mem_map, List.mem_filter]
 constructor
 ·rintro ⟨a, ha, b, hb, c, ⟨hc, h1⟩, h2⟩
  exact ⟨a, b, c, by omega, by omega, by omega, h1, h2.symm⟩
 ·rintro ⟨a, b, c, h1, h2, h3, h4, h5⟩
  exact ⟨a, by omega, b, by omega, c, ⟨by omega, h4⟩, h5.symm⟩

theorem triangles_tells (n : Int) (l : List DG) (hn : 3 ≤ n ∧ n ≤ 12) (hl : l.length ≤ 9) (k : Nat) (hk : 13000 < k) : impl_triangles.f k n l = some (T0 n l n.toNat 0 n.toNat) := by
 have h := tri_l0 n l n.toNat (by omega) hn hl n.toNat 0 [] (by omega) (by simp; omega) k (by omega)
 unfold impl_triangles.f
 exact h

theorem T0_len (n : Int) (l : List DG) (hn : 3 ≤ n ∧ n ≤ 12) (e : Nat) : ∀ a, e ≤ 12 → (T0 n l n.toNat a e).length ≤ 144 * e := by
 induction e with
 | zero => intro a _; simp [T0]
 | succ e ih =>
  intro a h
  have h1 := ih (a + 1) (by omega)
  have h2 := T1_len n l n.toNat a (by omega) (n.toNat - (a + 1)) (a + 1)
  unfold T0 at h1 ⊢
  rw [List.range'_succ, List.flatMap_cons, List.length_append]
  omega

theorem rd_drop (l : List Int) (i : Nat) (h : i < l.length) : l.drop i = rd l (i : Int) :: l.drop (i + 1) := by
 rw [getD_drop l 0 i h]
 unfold rd
 rw [Int.toNat_natCast]
theorem contI_rounds (l : List Int) (v : Int) (hl : l.length ≤ 4611686018427387904) (e : Nat) : ∀ (i k : Nat), i + e = l.length → e < k →
  ∃ r, slices_Index_int_int.l0 k l v (l.length : Int) (i : Int) = some r ∧ (r ≥ 0 ↔ ((l.drop i).any fun z => z == v) = true) := by
 induction e with
 | zero =>
  intro i k hi hk
  obtain ⟨k, rfl⟩ : ∃ q, k = q + 1 := ⟨k - 1, by omega⟩
  simp only [slices_Index_int_int.l0]
  rw [if_neg (by omega), List.drop_of_length_le (by omega)]
  exact ⟨-1, rfl, by simp⟩
 | succ e ih =>
  intro i k hi hk
  obtain ⟨k, rfl⟩ : ∃ q, k = q + 1 := ⟨k - 1, by omega⟩
  obtain ⟨r, hr, hr2⟩ := ih (i + 1) k (by omega) (by omega)
  simp only [slices_Index_int_int.l0]
  rw [if_pos (by omega), if_pos (by omega), if_pos (by omega), wrap_succ i (by omega), hr, rd_drop l i (by omega), List.any_cons]
  by_cases hc : v = rd l (i : Int)
  ·rw [if_pos hc, ← hc]
   exact ⟨i, rfl, by simp⟩
  ·rw [if_neg hc]
   have : (rd l (i : Int) == v) = false := by
    rw [beq_eq_false_iff_ne]
    exact fun h => hc h.symm
   exact ⟨r, rfl, by rw [this, Bool.false_or]; exact hr2⟩
theorem contI_tells (l : List Int) (v : Int) (hl : l.length ≤ 4611686018427387904) (k : Nat) (hk : l.length < k) : slices_Contains_int_int.f k l v = some (l.any fun z => z == v) := by
 obtain ⟨r, hr, hr2⟩ := contI_rounds l v hl l.length 0 k (by omega) hk
 unfold slices_Contains_int_int.f slices_Index_int_int.f
 rw [show ((0 : Nat) : Int) = 0 from rfl] at hr
 rw [hr, Option.bind_some]
 congr 1
 rw [Bool.eq_iff_iff, decide_eq_true_iff, hr2, List.drop_zero]

def stepO (a b : Int) (s : Int × Int) (c : Int) : Int × Int := if c = a ∨ c = b then s else if a ≤ c ∧ c ≤ b then (c, s.2) else (s.1, c)
def stepT (a b : Int) (s : Int × Int) (t : List Int) : Int × Int := if (t.any (fun z => z == a) && t.any fun z => z == b) = true then t.foldl (stepO a b) s else s

theorem otherOf_l1 (ts : List (List Int)) (x16 x17 : Int) (t : List Int) (a b : Int) (ht : t.length ≤ 4611686018427387904) (r : Option (Int × Int)) (e : Nat) : ∀ (i K : Nat) (s : Int × Int), i + e = t.length →
  (∀ k, K ≤ k → impl_otherOf.l0 k ((t.drop i).foldl (stepO a b) s).1 ((t.drop i).foldl (stepO a b) s).2 ts x16 (wrap64 (x17 + 1)) a b = r) → ∀ k, K + 2 * e < k → impl_otherOf.l1 k s.1 s.2 ts x16 x17 t (t.length : Int) (i : Int) a b = r := by
 induction e with
 | zero =>
  intro i K s hi h k hk
  obtain ⟨k, rfl⟩ : ∃ q, k = q + 1 := ⟨k - 1, by omega⟩
  simp only [impl_otherOf.l1]
  rw [if_neg (by omega)]
  rw [List.drop_of_length_le (by omega)] at h
  exact h k (by omega)
 | succ e ih =>
  intro i K s hi h k hk
  obtain ⟨k, rfl⟩ : ∃ q, k = q + 2 := ⟨k - 2, by omega⟩
  rw [rd_drop t i (by omega), List.foldl_cons] at h
  have hih := ih (i + 1) K (stepO a b s (rd t (i : Int))) (by omega) h k (by omega)
  simp only [impl_otherOf.l1]
  rw [if_pos (by omega), if_pos (by omega), if_pos (by omega)]
  simp only [impl_otherOf.j2, wrap_succ i (by omega), within_tells, Option.bind_some, if_true, decide_eq_true_eq]
  by_cases h1 : rd t (i : Int) = a
  ·rw [if_pos h1]
   unfold stepO at hih
   rw [if_pos (.inl h1)] at hih
   exact hih
  ·rw [if_neg h1]
   by_cases h2 : rd t (i : Int) = b
   ·have : (rd t (i : Int) == b) = true := by simpa using h2
    rw [if_pos this]
    unfold stepO at hih
    rw [if_pos (.inr h2)] at hih
    exact hih
   ·have : ¬ ((rd t (i : Int) == b) = true) := by simpa using h2
    rw [if_neg this]
    unfold stepO at hih
    rw [if_neg (by omega)] at hih
    by_cases h3 : a ≤ rd t (i : Int) ∧ rd t (i : Int) ≤ b
    ·rw [if_pos h3]
     rw [if_pos h3] at hih
     exact hih
    ·rw [if_neg h3]
     rw [if_neg h3] at hih
     exact hih

theorem rdL_drop (ts : List (List Int)) (i : Nat) (h : i < ts.length) : ts.drop i = rd_L5 ts (i : Int) :: ts.drop (i + 1) := by
 rw [getD_drop ts [] i h]
 unfold rd_L5
 rw [Int.toNat_natCast]

theorem otherOf_l0 (ts : List (List Int)) (a b : Int) (hts : ts.length ≤ 4611686018427387904) (h3 : ∀ t ∈ ts, t.length = 3) (e : Nat) : ∀ (i : Nat) (s : Int × Int), i + e = ts.length → ∀ k, 8 * e + 4 < k →
  impl_otherOf.l0 k s.1 s.2 ts (ts.length : Int) (i : Int) a b = some (mn ((ts.drop i).foldl (stepT a b) s).1 ((ts.drop i).foldl (stepT a b) s).2, mx ((ts.drop i).foldl (stepT a b) s).1 ((ts.drop i).foldl (stepT a b) s).2) := by
 induction e with
 | zero =>
  intro i s hi k hk
  obtain ⟨k, rfl⟩ : ∃ q, k = q + 1 := ⟨k - 1, by omega⟩
  simp only [impl_otherOf.l0]
  rw [if_neg (by omega), List.drop_of_length_le (by omega)]
  rfl
 | succ e ih =>
  intro i s hi k hk
  obtain ⟨k, rfl⟩ : ∃ q, k = q + 1 := ⟨k - 1, by omega⟩
  have hm : rd_L5 ts (i : Int) ∈ ts := by
   have : rd_L5 ts (i : Int) ∈ ts.drop i := by
    rw [rdL_drop ts i (by omega)]
    exact List.mem_cons_self ..
   exact List.mem_of_mem_drop this
  have hlen := h3 _ hm
  rw [rdL_drop ts i (by omega), List.foldl_cons]
  have c1 := contI_tells (rd_L5 ts (i : Int)) a (by omega) k (by omega)
  have c2 := contI_tells (rd_L5 ts (i : Int)) b (by omega) k (by omega)
  simp only [impl_otherOf.l0]
  rw [if_pos (by omega), if_pos (by omega), if_pos (by omega), c1, c2]
  simp only [Option.bind_some]
  have hih := fun s => ih (i + 1) s (by omega)
  rw [wrap_succ i (by omega)]
  unfold stepT
  cases b1 : (rd_L5 ts (i : Int)).any fun z => z == a
  ·simp only [Bool.false_eq_true, if_false, Bool.false_and]
   exact hih s k (by omega)
  ·cases b2 : (rd_L5 ts (i : Int)).any fun z => z == b
   ·simp only [Bool.false_eq_true, if_false, Bool.and_false, if_true]
    exact hih s k (by omega)
   ·simp only [if_true, Bool.and_self]
    have h1 := otherOf_l1 ts (ts.length : Int) (i : Int) (rd_L5 ts (i : Int)) a b (by omega) (some (mn ((ts.drop (i + 1)).foldl (stepT a b) ((rd_L5 ts (i : Int)).foldl (stepO a b) s)).1 ((ts.drop (i + 1)).foldl (stepT a b) ((rd_L5 ts (i : Int)).foldl (stepO a b) s)).2, mx ((ts.drop (i + 1)).foldl (stepT a b) ((rd_L5 ts (i : Int)).foldl (stepO a b) s)).1 ((ts.drop (i + 1)).foldl (stepT a b) ((rd_L5 ts (i : Int)).foldl (stepO a b) s)).2)) 3 0 (8 * e + 5) s (by omega) (by
     intro k' hk'
     rw [wrap_succ i (by omega), List.drop_zero]
     exact hih _ k' (by omega)) k (by omega)
    exact h1

/-- Each list changes nothing, or sets the one place, or sets the other. -/
theorem fold_sets (f : Int × Int → List Int → Int × Int) (x o : Int) : ∀ (ts : List (List Int)) (s : Int × Int), (∀ t ∈ ts, (∀ s, f s t = s) ∨ (∀ s, f s t = (x, s.2)) ∨ (∀ s, f s t = (s.1, o))) →
  ((s.1 = x ∨ ∃ t ∈ ts, ∀ s, f s t = (x, s.2)) → (ts.foldl f s).1 = x) ∧ ((s.2 = o ∨ ∃ t ∈ ts, ∀ s, f s t = (s.1, o)) → (ts.foldl f s).2 = o)
 | [], s, _ => ⟨fun h => by simpa using h, fun h => by simpa using h⟩
 | t :: ts, s, h => by
  obtain ⟨i1, i2⟩ := fold_sets f x o ts (f s t) (fun u hu => h u (List.mem_cons_of_mem _ hu))
  have ht := h t (List.mem_cons_self ..)
  rw [List.foldl_cons]
  constructor
  ·intro h1
   apply i1
   rcases h1 with h1 | ⟨u, hu, hu2⟩
   ·left
    rcases ht with e | e | e <;> rw [e s]
    ·exact h1
    ·exact h1
   ·rcases List.mem_cons.1 hu with e | e
    ·left
     rw [← e, hu2 s]
    ·exact .inr ⟨u, e, hu2⟩
  ·intro h1
   apply i2
   rcases h1 with h1 | ⟨u, hu, hu2⟩
   ·left
    rcases ht with e | e | e <;> rw [e s]
    ·exact h1
    ·exact h1
   ·rcases List.mem_cons.1 hu with e | e
    ·left
     rw [← e, hu2 s]
    ·exact .inr ⟨u, e, hu2⟩

theorem otherOf_tells {n : Int} {l : List DG} (T : Tri n l) (d : DG) (hd : d ∈ l) (x o : Int) (x1 : d.f0 < x) (x2 : x < d.f1) (o1 : 0 ≤ o) (o2 : o ≤ n - 1) (o3 : o < d.f0 ∨ d.f1 < o)
  (hap : ∀ c, 0 ≤ c → c ≤ n - 1 → c ≠ d.f0 → c ≠ d.f1 → (apB n l d.f0 d.f1 c = true ↔ c = x ∨ c = o)) (k : Nat) (hk : 20000 < k) : impl_otherOf.f k n l d.f0 d.f1 = some (min x o, max x o) := by
 have hn := T.n3
 have hok := T.ok d hd
 have hs := T.small
 unfold impl_otherOf.f
 rw [triangles_tells n l hn hs k (by omega), Option.bind_some]
 have hlen := T0_len n l hn n.toNat 0 (by omega)
 have h3 : ∀ t ∈ T0 n l n.toNat 0 n.toNat, t.length = 3 := by
  intro t ht
  obtain ⟨a, b, c, _, _, _, _, e⟩ := (T0_mem n l n.toNat t).1 ht
  rw [e]
  rfl
 have h := otherOf_l0 (T0 n l n.toNat 0 n.toNat) d.f0 d.f1 (by omega) h3 _ 0 (-1, -1) (Nat.zero_add _) k (by omega)
 rw [show ((0 : Nat) : Int) = 0 from rfl, List.drop_zero] at h
 rw [h]
 have hJd : joinB n l d.f0 d.f1 = true := (J_iff n l d.f0 d.f1).1 (.inr (.inr (hasD_of hd)))
 have hx := (hap x (by omega) (by omega) (by omega) (by omega)).2 (.inl rfl)
 have ho := (hap o o1 o2 (by omega) (by omega)).2 (.inr rfl)
 unfold apB at hx ho
 rw [Bool.and_eq_true] at hx ho
 rw [Int.min_eq_right (by omega), Int.max_eq_left (by omega), Int.min_eq_left (by omega), Int.max_eq_right (by omega)] at hx
 have key : ∀ t ∈ T0 n l n.toNat 0 n.toNat, (∀ s, stepT d.f0 d.f1 s t = s) ∨ (∀ s, stepT d.f0 d.f1 s t = (x, s.2)) ∨ (∀ s, stepT d.f0 d.f1 s t = (s.1, o)) := by
  intro t ht
  obtain ⟨a, b, c, hab, hbc, hc, htr, e⟩ := (T0_mem n l n.toNat t).1 ht
  unfold triB at htr
  rw [Bool.and_eq_true, Bool.and_eq_true] at htr
  obtain ⟨j1, j2, j3⟩ := htr
  by_cases hin : (t.any (fun z => z == d.f0) && t.any fun z => z == d.f1) = true
  ·right
   rw [e] at hin
   simp only [List.any_cons, List.any_nil, Bool.or_false, Bool.and_eq_true, Bool.or_eq_true, beq_iff_eq] at hin
   have third : ∀ v : Int, 0 ≤ v → v ≤ n - 1 → v ≠ d.f0 → v ≠ d.f1 → apB n l d.f0 d.f1 v = true → (∀ s, t.foldl (stepO d.f0 d.f1) s = stepO d.f0 d.f1 s v) → (∀ s, stepT d.f0 d.f1 s t = (x, s.2)) ∨ (∀ s, stepT d.f0 d.f1 s t = (s.1, o)) := by
    intro v v1 v2 v3 v4 hv hf
    have hst : ∀ s, stepT d.f0 d.f1 s t = stepO d.f0 d.f1 s v := by
     intro s
     unfold stepT
     rw [if_pos, hf s]
     rw [e]
     simp only [List.any_cons, List.any_nil, Bool.or_false, Bool.and_eq_true, Bool.or_eq_true, beq_iff_eq]
     exact hin
    rcases (hap v v1 v2 v3 v4).1 hv with hv | hv
    ·left
     intro s
     rw [hst s]
     unfold stepO
     rw [if_neg (by omega), if_pos (by omega), hv]
    ·right
     intro s
     rw [hst s]
     unfold stepO
     rw [if_neg (by omega), if_neg (by omega), hv]
   by_cases q1 : (a : Int) = d.f0
   ·by_cases q2 : (b : Int) = d.f1
    ·refine third c (by omega) (by omega) (by omega) (by omega) ?_ ?_
     ·unfold apB
      rw [Int.min_eq_right (by omega), Int.max_eq_left (by omega), Int.min_eq_right (by omega), Int.max_eq_left (by omega), ← q1, ← q2, j2, j3]
      rfl
     ·intro s
      rw [e]
      simp only [List.foldl_cons, List.foldl_nil]
      have e1 : stepO d.f0 d.f1 s (a : Int) = s := by unfold stepO; rw [if_pos (.inl q1)]
      have e2 : stepO d.f0 d.f1 s (b : Int) = s := by unfold stepO; rw [if_pos (.inr q2)]
      rw [e1, e2]
    ·have q3 : (c : Int) = d.f1 := by omega
     refine third b (by omega) (by omega) (by omega) (by omega) ?_ ?_
     ·unfold apB
      rw [Int.min_eq_right (by omega), Int.max_eq_left (by omega), Int.min_eq_left (by omega), Int.max_eq_right (by omega), ← q1, ← q3, j1, j2]
      rfl
     ·intro s
      rw [e]
      simp only [List.foldl_cons, List.foldl_nil]
      have e1 : stepO d.f0 d.f1 s (a : Int) = s := by unfold stepO; rw [if_pos (.inl q1)]
      have e2 : ∀ s, stepO d.f0 d.f1 s (c : Int) = s := by intro s; unfold stepO; rw [if_pos (.inr q3)]
      rw [e1, e2]
   ·have q2 : (b : Int) = d.f0 := by omega
    have q3 : (c : Int) = d.f1 := by omega
    refine third a (by omega) (by omega) (by omega) (by omega) ?_ ?_
    ·unfold apB
     rw [Int.min_eq_left (by omega), Int.max_eq_right (by omega), Int.min_eq_left (by omega), Int.max_eq_right (by omega), ← q2, ← q3, j1, j3]
     rfl
    ·intro s
     rw [e]
     simp only [List.foldl_cons, List.foldl_nil]
     have e1 : ∀ s, stepO d.f0 d.f1 s (b : Int) = s := by intro s; unfold stepO; rw [if_pos (.inl q2)]
     have e2 : ∀ s, stepO d.f0 d.f1 s (c : Int) = s := by intro s; unfold stepO; rw [if_pos (.inr q3)]
     rw [e1, e2]
  ·left
   intro s
   unfold stepT
   rw [if_neg hin]
 obtain ⟨f1, f2⟩ := fold_sets (stepT d.f0 d.f1) x o (T0 n l n.toNat 0 n.toNat) (-1, -1) key
 have hax : ∃ t ∈ T0 n l n.toNat 0 n.toNat, ∀ s, stepT d.f0 d.f1 s t = (x, s.2) := by
  refine ⟨[d.f0, x, d.f1], (T0_mem n l n.toNat _).2 ⟨d.f0.toNat, x.toNat, d.f1.toNat, by omega, by omega, by omega, ?_, ?_⟩, ?_⟩
  ·unfold triB
   rw [Int.toNat_of_nonneg (by omega), Int.toNat_of_nonneg (by omega), Int.toNat_of_nonneg (by omega), hx.1, hx.2, hJd]
   rfl
  ·rw [Int.toNat_of_nonneg (by omega), Int.toNat_of_nonneg (by omega), Int.toNat_of_nonneg (by omega)]
  ·intro s
   unfold stepT
   rw [if_pos (by simp)]
   simp only [List.foldl_cons, List.foldl_nil]
   have e1 : stepO d.f0 d.f1 s d.f0 = s := by unfold stepO; rw [if_pos (.inl rfl)]
   have e2 : ∀ s, stepO d.f0 d.f1 s d.f1 = s := by intro s; unfold stepO; rw [if_pos (.inr rfl)]
   rw [e1, e2]
   unfold stepO
   rw [if_neg (by omega), if_pos (by omega)]
 have hao : ∃ t ∈ T0 n l n.toNat 0 n.toNat, ∀ s, stepT d.f0 d.f1 s t = (s.1, o) := by
  rcases o3 with o3 | o3
  ·rw [Int.min_eq_left (by omega), Int.max_eq_right (by omega), Int.min_eq_left (by omega), Int.max_eq_right (by omega)] at ho
   refine ⟨[o, d.f0, d.f1], (T0_mem n l n.toNat _).2 ⟨o.toNat, d.f0.toNat, d.f1.toNat, by omega, by omega, by omega, ?_, ?_⟩, ?_⟩
   ·unfold triB
    rw [Int.toNat_of_nonneg (by omega), Int.toNat_of_nonneg (by omega), Int.toNat_of_nonneg (by omega), ho.1, ho.2, hJd]
    rfl
   ·rw [Int.toNat_of_nonneg (by omega), Int.toNat_of_nonneg (by omega), Int.toNat_of_nonneg (by omega)]
   ·intro s
    unfold stepT
    rw [if_pos (by simp)]
    simp only [List.foldl_cons, List.foldl_nil]
    have e1 : ∀ s, stepO d.f0 d.f1 s d.f0 = s := by intro s; unfold stepO; rw [if_pos (.inl rfl)]
    have e2 : ∀ s, stepO d.f0 d.f1 s d.f1 = s := by intro s; unfold stepO; rw [if_pos (.inr rfl)]
    rw [e1, e2]
    unfold stepO
    rw [if_neg (by omega), if_neg (by omega)]
  ·rw [Int.min_eq_right (by omega), Int.max_eq_left (by omega), Int.min_eq_right (by omega), Int.max_eq_left (by omega)] at ho
   refine ⟨[d.f0, d.f1, o], (T0_mem n l n.toNat _).2 ⟨d.f0.toNat, d.f1.toNat, o.toNat, by omega, by omega, by omega, ?_, ?_⟩, ?_⟩
   ·unfold triB
    rw [Int.toNat_of_nonneg (by omega), Int.toNat_of_nonneg (by omega), Int.toNat_of_nonneg (by omega), ho.1, ho.2, hJd]
    rfl
   ·rw [Int.toNat_of_nonneg (by omega), Int.toNat_of_nonneg (by omega), Int.toNat_of_nonneg (by omega)]
   ·intro s
    unfold stepT
    rw [if_pos (by simp)]
    simp only [List.foldl_cons, List.foldl_nil]
    have e1 : ∀ s, stepO d.f0 d.f1 s d.f0 = s := by intro s; unfold stepO; rw [if_pos (.inl rfl)]
    have e2 : ∀ s, stepO d.f0 d.f1 s d.f1 = s := by intro s; unfold stepO; rw [if_pos (.inr rfl)]
    rw [e1, e2]
    unfold stepO
    rw [if_neg (by omega), if_neg (by omega)]
 have g1 := f1 (.inr hax)
 have g2 := f2 (.inr hao)
 rw [g1, g2]
 congr 1
 unfold mn mx
 ext <;> simp only <;> split <;> omega

def leD (x y : DG) : Prop := x.f0 < y.f0 ∨ (x.f0 = y.f0 ∧ x.f1 ≤ y.f1)
theorem leD_antisymm {x y : DG} (h1 : leD x y) (h2 : leD y x) : x = y := by
 obtain ⟨a, b⟩ := x
 obtain ⟨c, d⟩ := y
 unfold leD at h1 h2
 simp only at h1 h2
 have e1 : a = c := by omega
 have e2 : b = d := by omega
 rw [e1, e2]
theorem sorted_unique : ∀ {l m : List DG}, l.Perm m → l.Pairwise leD → m.Pairwise leD → l = m
 | [], m, h, _, _ => (List.Perm.nil_eq h)
 | x :: l, [], h, _, _ => by have := h.length_eq; simp at this
 | x :: l, y :: m, h, h1, h2 => by
  obtain ⟨a1, a2⟩ := List.pairwise_cons.1 h1
  obtain ⟨b1, b2⟩ := List.pairwise_cons.1 h2
  have e : x = y := by
   have hx : x ∈ y :: m := h.subset (List.mem_cons_self ..)
   have hy : y ∈ x :: l := h.symm.subset (List.mem_cons_self ..)
   rcases List.mem_cons.1 hx with hx | hx
   ·exact hx
   ·rcases List.mem_cons.1 hy with hy | hy
    ·exact hy.symm
    ·exact leD_antisymm (a1 y hy) (b1 x hx)
  rw [e] at h ⊢
  rw [sorted_unique (List.Perm.cons_inv h) a2 b2]
theorem sorted_ins {A B : List DG} {d : DG} (h : (A ++ B).Pairwise leD) (hA : ∀ x ∈ A, leD x d) (hB : ∀ x ∈ B, leD d x) : (A ++ d :: B).Pairwise leD := by
 rw [List.pairwise_append] at h ⊢
 obtain ⟨h1, h2, h3⟩ := h
 refine ⟨h1, List.pairwise_cons.2 ⟨hB, h2⟩, fun x hx y hy => ?_⟩
 rcases List.mem_cons.1 hy with e | e
 ·rw [e]
  exact hA x hx
 ·exact h3 x hx y e
theorem leD_trans {x y z : DG} (h1 : leD x y) (h2 : leD y z) : leD x z := by
 unfold leD at *
 omega
theorem rT_mid (A : List DG) (d : DG) (R : List DG) (i : Int) (hi : i = (A.length : Int)) : rd_T38 (A ++ d :: R) i = d := by
 unfold rd_T38
 rw [hi, Int.toNat_natCast, List.getD_eq_getElem?_getD]
 simp
/-- The reference's place for one: behind all that are less. -/
theorem ps_l1 (d : DG) (x8 : List DG) (x9 x10 : Int) (e : Nat) : ∀ (A B : List DG) (k : Nat), B.length = e → A.length + B.length ≤ 1000 → (A ++ B).Pairwise leD → (∀ x ∈ A, leD x d) → e + 2 < k →
  ∃ S k', k ≤ k' + e + 1 ∧ S.Pairwise leD ∧ S.Perm (d :: (A ++ B)) ∧ spec_poSorted.l1 k (A ++ B) (A.length : Int) x8 x9 x10 d.f0 d.f1 = spec_poSorted.l0 k' S x8 x9 (wrap64 (x10 + 1)) := by
 induction e with
 | zero =>
  intro A B k hB hl hs hA hk
  obtain ⟨k, rfl⟩ : ∃ q, k = q + 1 := ⟨k - 1, by omega⟩
  have : B = [] := List.length_eq_zero_iff.1 hB
  subst this
  rw [List.append_nil] at hs ⊢
  refine ⟨A ++ [d], k, by omega, sorted_ins (by simpa using hs) hA (by simp), by simpa using (List.perm_append_comm (l₁ := A) (l₂ := [d])), ?_⟩
  simp only [spec_poSorted.l1, Int.toNat_natCast, Option.bind_some, List.nil_append, List.take_length, List.drop_length, List.length_append, List.length_nil, List.length_singleton, List.append_nil]
  rw [if_neg (by omega), if_pos (by omega), if_pos (by omega), if_pos (by omega), if_pos (by omega), if_pos (by omega)]
 | succ e ih =>
  intro A B k hB hl hs hA hk
  obtain ⟨k, rfl⟩ : ∃ q, k = q + 1 := ⟨k - 1, by omega⟩
  cases B with
  | nil => simp at hB
  | cons z B =>
   rw [List.length_cons] at hB hl
   have w : wrap64 ((A.length : Int) + 1) = ((A ++ [z]).length : Int) := by
    rw [List.length_append, List.length_singleton]
    unfold wrap64
    omega
   have r1 : rd_T38 (A ++ z :: B) (A.length : Int) = z := rT_mid _ _ _ _ rfl
   have hlen : (A ++ z :: B).length = A.length + (B.length + 1) := by simp
   simp only [spec_poSorted.l1]
   rw [if_pos (by rw [hlen]; omega), if_pos (by omega), r1, poLess_tells, Option.bind_some, w]
   cases hc : lessB z.f0 z.f1 d.f0 d.f1
   ·rw [if_neg (by simp)]
    have hdz : leD d z := by
     simp only [lessB, decide_eq_false_iff_not] at hc
     unfold leD
     omega
    refine ⟨A ++ d :: z :: B, k, by omega, sorted_ins hs hA ?_, List.perm_middle, ?_⟩
    ·intro x hx
     rcases List.mem_cons.1 hx with e | e
     ·rw [e]
      exact hdz
     ·exact leD_trans hdz ((List.pairwise_cons.1 (List.pairwise_append.1 hs).2.1).1 x e)
    ·have t1 : (A ++ z :: B).take A.length = A := by simp
     have t2 : (A ++ z :: B).drop A.length = z :: B := by simp
     simp only [Int.toNat_natCast, Option.bind_some, List.nil_append, t1, t2, List.length_append, List.length_nil, List.length_singleton, List.length_cons]
     rw [if_pos (by omega), if_pos (by omega), if_pos (by omega), if_pos (by omega)]
     simp
   ·rw [if_pos rfl]
    have hzd : leD z d := by
     simp only [lessB, decide_eq_true_eq] at hc
     unfold leD
     omega
    have ea : A ++ z :: B = (A ++ [z]) ++ B := by simp
    rw [ea] at hs ⊢
    obtain ⟨S, k', h1, h2, h3, h4⟩ := ih (A ++ [z]) B k (by omega) (by rw [List.length_append, List.length_singleton]; omega) hs (by
     intro x hx
     rcases List.mem_append.1 hx with e | e
     ·exact hA x e
     ·rw [List.mem_singleton] at e
      rw [e]
      exact hzd) (by omega)
    exact ⟨S, k', by omega, h2, h3, h4⟩

theorem ps_l0 (x8 : List DG) (hx : x8.length ≤ 100) (e : Nat) : ∀ (i : Nat) (S : List DG) (k : Nat), i + e = x8.length → S.length = i → S.Pairwise leD → S.Perm (x8.take i) → 110 * e + 10 < k →
  ∃ r, spec_poSorted.l0 k S x8 (x8.length : Int) (i : Int) = some r ∧ r.Pairwise leD ∧ r.Perm x8 := by
 induction e with
 | zero =>
  intro i S k hi hS hs hp hk
  obtain ⟨k, rfl⟩ : ∃ q, k = q + 1 := ⟨k - 1, by omega⟩
  refine ⟨S, ?_, hs, ?_⟩
  ·simp only [spec_poSorted.l0]
   rw [if_neg (by omega)]
  ·rwa [List.take_of_length_le (by omega)] at hp
 | succ e ih =>
  intro i S k hi hS hs hp hk
  obtain ⟨k, rfl⟩ : ∃ q, k = q + 1 := ⟨k - 1, by omega⟩
  obtain ⟨S', k', h1, h2, h3, h4⟩ := ps_l1 (rD x8 i) x8 (x8.length : Int) (i : Int) S.length [] S k rfl (by simp; omega) (by simpa using hs) (by simp) (by omega)
  rw [wrap_succ i (by omega)] at h4
  have hlen : S'.length = i + 1 := by rw [h3.length_eq]; simp; omega
  have hp' : S'.Perm (x8.take (i + 1)) := by
   refine h3.trans ?_
   have e1 : x8.take (i + 1) = x8.take i ++ [rD x8 i] := by
    rw [List.take_succ_eq_append_getElem (by omega)]
    congr 2
    unfold rD rd_T38
    rw [Int.toNat_natCast, List.getD_eq_getElem?_getD, List.getElem?_eq_getElem (by omega)]
    rfl
   rw [e1, List.nil_append]
   exact (List.Perm.cons _ hp).trans (List.perm_append_comm (l₁ := [rD x8 i]))
  obtain ⟨r, g1, g2, g3⟩ := ih (i + 1) S' k' (by omega) hlen h2 hp' (by omega)
  refine ⟨r, ?_, g2, g3⟩
  simp only [spec_poSorted.l0]
  rw [if_pos (by omega), if_pos (by omega), if_pos (by omega)]
  rw [← g1, ← h4]
  rfl

theorem poSorted_tells (l : List DG) (h : l.length ≤ 100) (k : Nat) (hk : 11010 < k) : ∃ r, spec_poSorted.f k l = some r ∧ r.Pairwise leD ∧ r.Perm l :=
 ps_l0 l h l.length 0 [] k (by omega) rfl List.Pairwise.nil (by simp) (by omega)

theorem cmpD_neg (a b c d : Int) : cmpD a b c d < 0 ↔ lessB a b c d = true := by
 have := cmpD_nonneg a b c d
 cases h : lessB a b c d
 ·rw [h] at this
  simp only [true_iff, iff_true] at this
  simp only [Bool.false_eq_true, iff_false]
  omega
 ·rw [h] at this
  simp only [Bool.true_eq_false, iff_false] at this
  simp only [iff_true]
  omega
theorem swap_set (A : List DG) (z d : DG) (R : List DG) : ((A ++ z :: d :: R).set (A.length + 1) z).set A.length d = A ++ d :: z :: R := by
 induction A with
 | nil => rfl
 | cons x A ih => simpa using ih

theorem ins_l1 (n : Int) (d : DG) (C : List DG) (m : Nat) : ∀ (A B : List DG) (k : Nat) (i : Nat), A.length = m → (A ++ B).Pairwise leD → (∀ x ∈ B, leD d x) → i = A.length + B.length → i ≤ 1000 → m + 8 < k →
  ∃ S k', k ≤ k' + m + 1 ∧ S.Pairwise leD ∧ S.Perm (A ++ d :: B) ∧ impl_Diagonal_71_s3.l1 k (A ++ d :: (B ++ C)) 0 n (i : Int) (m : Int) = impl_Diagonal_71_s3.l0 k' (S ++ C) 0 n ((i : Int) + 1) := by
 induction m with
 | zero =>
  intro A B k i hA hs hB hi hi2 hk
  obtain ⟨k, rfl⟩ : ∃ q, k = q + 1 := ⟨k - 1, by omega⟩
  have : A = [] := List.length_eq_zero_iff.1 hA
  subst this
  have w : wrap64 ((i : Int) + 1) = (i : Int) + 1 := by unfold wrap64; omega
  refine ⟨d :: B, k, by omega, sorted_ins hs (by simp) hB, List.Perm.refl _, ?_⟩
  simp only [impl_Diagonal_71_s3.l1]
  rw [if_neg (by omega), w]
  rfl
 | succ m ih =>
  intro A B k i hA hs hB hi hi2 hk
  obtain ⟨k, rfl⟩ : ∃ q, k = q + 1 := ⟨k - 1, by omega⟩
  rcases List.eq_nil_or_concat A with e | ⟨A', z, e⟩
  ·subst e
   simp at hA
  ·rw [List.concat_eq_append] at e
   subst e
   rw [List.length_append, List.length_singleton] at hA hi
   have w0 : wrap64 ((i : Int) + 1) = (i : Int) + 1 := by unfold wrap64; omega
   have w1 : wrap64 (((m + 1 : Nat) : Int) - 1) = (m : Int) := by unfold wrap64; omega
   have el : A' ++ [z] ++ d :: (B ++ C) = A' ++ z :: d :: (B ++ C) := by simp
   have r1 : rd_T38 (A' ++ z :: d :: (B ++ C)) ((m + 1 : Nat) : Int) = d := by
    rw [← el]
    exact rT_mid _ _ _ _ (by rw [List.length_append, List.length_singleton]; omega)
   have r2 : rd_T38 (A' ++ z :: d :: (B ++ C)) (m : Int) = z := rT_mid _ _ _ _ (by omega)
   have hlen : (A' ++ z :: d :: (B ++ C)).length = A'.length + (B.length + C.length + 2) := by simp
   rw [el]
   simp only [impl_Diagonal_71_s3.l1]
   rw [if_pos (by omega), if_pos (by omega), if_pos (by rw [hlen]; omega), w1, if_pos (by omega), if_pos (by rw [hlen]; omega), r1, r2, compareDiagonals_tells _ _ _ _ k (by omega), Option.bind_some, w0]
   by_cases hc : cmpD d.f0 d.f1 z.f0 z.f1 < 0
   ·rw [if_pos hc]
    have hlt := (cmpD_neg _ _ _ _).1 hc
    simp only [lessB, decide_eq_true_eq] at hlt
    have hsw : ((A' ++ z :: d :: (B ++ C)).set ((m + 1 : Nat) : Int).toNat ⟨z.f0, z.f1⟩).set (m : Int).toNat ⟨d.f0, d.f1⟩ = A' ++ d :: ((z :: B) ++ C) := by
     rw [Int.toNat_natCast, Int.toNat_natCast, show m = A'.length by omega]
     exact swap_set A' z d (B ++ C)
    rw [hsw]
    rw [List.append_assoc] at hs
    obtain ⟨S, k', h1, h2, h3, h4⟩ := ih A' (z :: B) k i (by omega) (by simpa using hs) (by
     intro x hx
     have hdz : leD d z := by unfold leD; omega
     rcases List.mem_cons.1 hx with e | e
     ·rw [e]
      exact hdz
     ·exact hB x e) (by simp; omega) hi2 (by omega)
    refine ⟨S, k', by omega, h2, h3.trans ?_, h4⟩
    have : (A' ++ [z] ++ d :: B) = A' ++ z :: d :: B := by simp
    rw [this]
    exact List.Perm.append_left A' (List.Perm.swap z d B)
   ·rw [if_neg hc]
    have hzd : leD z d := by
     have := mt (cmpD_neg _ _ _ _).2 hc
     simp only [lessB, decide_eq_true_eq] at this
     unfold leD
     omega
    refine ⟨A' ++ [z] ++ d :: B, k, by omega, ?_, List.Perm.refl _, ?_⟩
    ·refine sorted_ins hs (fun x hx => ?_) hB
     rcases List.mem_append.1 hx with e | e
     ·have h5 := (List.pairwise_append.1 (List.pairwise_append.1 hs).1).2.2 x e z (by simp)
      exact leD_trans h5 hzd
     ·rw [List.mem_singleton] at e
      rw [e]
      exact hzd
    ·simp

theorem ins_l0 (n : Nat) (hn : n ≤ 12) (C : List DG) : ∀ (S : List DG) (k : Nat), S.Pairwise leD → 0 < S.length → S.length + C.length = n → 25 * C.length + 25 < k →
  ∃ r, impl_Diagonal_71_s3.l0 k (S ++ C) 0 (n : Int) (S.length : Int) = some r ∧ r.Pairwise leD ∧ r.Perm (S ++ C) := by
 induction C with
 | nil =>
  intro S k hs h0 hl hk
  obtain ⟨k, rfl⟩ : ∃ q, k = q + 1 := ⟨k - 1, by omega⟩
  refine ⟨S, ?_, hs, by simp⟩
  simp only [impl_Diagonal_71_s3.l0, List.append_nil]
  rw [if_neg (by simp at hl; omega)]
 | cons d C ih =>
  intro S k hs h0 hl hk
  rw [List.length_cons] at hl hk
  obtain ⟨k, rfl⟩ : ∃ q, k = q + 1 := ⟨k - 1, by omega⟩
  obtain ⟨S', k', h1, h2, h3, h4⟩ := ins_l1 (n : Int) d C S.length S [] k S.length rfl (by simpa using hs) (by simp) (by simp) (by omega) (by omega)
  have hlen : S'.length = S.length + 1 := by rw [h3.length_eq]; simp
  obtain ⟨r, g1, g2, g3⟩ := ih S' k' h2 (by omega) (by omega) (by omega)
  refine ⟨r, ?_, g2, g3.trans ?_⟩
  ·simp only [impl_Diagonal_71_s3.l0]
   rw [if_pos (by omega)]
   rw [show (S'.length : Int) = (S.length : Int) + 1 by omega] at g1
   rw [← g1, ← h4]
   simp
  ·have := List.Perm.append_right C h3
   simpa using this

theorem len12 (k : Nat) (L : Nat) (h : L ≤ 12) : ∃ r, bits_Len.f (k + 1) (IntKind.u64.wrap (L : Int)) = some r := by
 have : L = 0 ∨ L = 1 ∨ L = 2 ∨ L = 3 ∨ L = 4 ∨ L = 5 ∨ L = 6 ∨ L = 7 ∨ L = 8 ∨ L = 9 ∨ L = 10 ∨ L = 11 ∨ L = 12 := by omega
 rcases this with rfl | rfl | rfl | rfl | rfl | rfl | rfl | rfl | rfl | rfl | rfl | rfl | rfl <;> exact ⟨_, rfl⟩

theorem sortFunc_tells (l : List DG) (h : l.length ≤ 12) (k : Nat) (hk : 400 < k) : ∃ r, impl_Diagonal_47_s4.f k l = some r ∧ r.Pairwise leD ∧ r.Perm l := by
 obtain ⟨k, rfl⟩ : ∃ q, k = q + 1 := ⟨k - 1, by omega⟩
 obtain ⟨q, hq⟩ := len12 k l.length h
 have w : wrap64 (0 + 1) = 1 := by unfold wrap64; omega
 unfold impl_Diagonal_47_s4.f impl_Diagonal_61.f
 rw [hq]
 simp only [Option.bind_some]
 rw [if_pos (by omega)]
 unfold impl_Diagonal_71_s3.f
 rw [w]
 cases l with
 | nil =>
  refine ⟨[], ?_, List.Pairwise.nil, List.Perm.refl _⟩
  rfl
 | cons d C =>
  obtain ⟨r, g1, g2, g3⟩ := ins_l0 (C.length + 1) h C [d] (k + 1) (by simp) (by simp) (by simp; omega) (by simp at h; omega)
  refine ⟨r, ?_, g2, g3⟩
  have e : impl_Diagonal_71_s3.l0 (k + 1) (d :: C) 0 ((d :: C).length : Int) 1 = some r := g1
  rw [e]
  rfl


theorem make_rounds (n : Int) (l : List DG) (a b : Int) (hl : l.length ≤ 1000) (e : Nat) : ∀ (i k : Nat) (acc : List DG), i + e = l.length → acc.length ≤ i → e < k →
  spec_flMake.l0 k n l acc l (l.length : Int) (i : Int) a b = (spec_flOther.f (k - e - 1) n l a b).bind fun bt => (spec_poSorted.f (k - e - 1) ((acc ++ (l.drop i).filter fun x => !(x.f0 == a) || !(x.f1 == b)) ++ [⟨bt.1, bt.2⟩])).bind fun t => some t := by
 induction e with
 | zero =>
  intro i k acc hi hacc hk
  obtain ⟨k, rfl⟩ : ∃ q, k = q + 1 := ⟨k - 1, by omega⟩
  simp only [spec_flMake.l0]
  rw [if_neg (by omega), List.drop_of_length_le (by omega), List.filter_nil, List.append_nil]
  have hlt : acc.length < 8796093022208 := by omega
  simp only [hlt, if_true]
  rfl
 | succ e ih =>
  intro i k acc hi hacc hk
  obtain ⟨k, rfl⟩ : ∃ q, k = q + 1 := ⟨k - 1, by omega⟩
  have hd := rD_drop l i (by omega)
  simp only [spec_flMake.l0]
  rw [if_pos (by omega), if_pos (by omega), if_pos (by omega), wrap_succ i (by omega), hd, List.filter_cons, show k + 1 - (e + 1) - 1 = k - e - 1 by omega]
  by_cases hc : (!((rD l i).f0 == a) || !((rD l i).f1 == b)) = true
  ·rw [if_pos hc, if_pos (by omega), if_pos hc, ih (i + 1) k _ (by omega) (by rw [List.length_append, List.length_singleton]; omega) (by omega)]
   simp
  ·rw [if_neg hc, if_neg hc]
   exact ih (i + 1) k acc (by omega) (by omega) (by omega)

theorem Tri.cut {n : Int} {l : List DG} (T : Tri n l) (d : DG) (hd : d ∈ l) : ∃ A B, l = A ++ d :: B ∧ (∀ x ∈ A, ¬ (x.f0 = d.f0 ∧ x.f1 = d.f1)) ∧ ∀ x ∈ B, ¬ (x.f0 = d.f0 ∧ x.f1 = d.f1) := by
 obtain ⟨A, B, e⟩ := List.append_of_mem hd
 refine ⟨A, B, e, ?_, ?_⟩
 ·intro x hx
  have hs := T.sorted
  rw [e, List.pairwise_append] at hs
  have := hs.2.2 x hx d (List.mem_cons_self ..)
  omega
 ·intro x hx
  have hs := T.sorted
  rw [e, List.pairwise_append] at hs
  have := (List.pairwise_cons.1 hs.2.1).1 x hx
  omega

theorem flip_spec {n : Int} {l : List DG} (T : Tri n l) (d : DG) (hd : d ∈ l) (x o : Int) (x1 : d.f0 < x) (x2 : x < d.f1) (o1 : 0 ≤ o) (o2 : o ≤ n - 1) (o3 : o < d.f0 ∨ d.f1 < o)
  (hap : ∀ c, 0 ≤ c → c ≤ n - 1 → c ≠ d.f0 → c ≠ d.f1 → (apB n l d.f0 d.f1 c = true ↔ c = x ∨ c = o)) :
  ∃ r A B, l = A ++ d :: B ∧ (∀ x ∈ A, ¬ (x.f0 = d.f0 ∧ x.f1 = d.f1)) ∧ r.Pairwise leD ∧ r.Perm (⟨min x o, max x o⟩ :: (A ++ B)) ∧ ∀ k, 20020 < k → spec_flMake.f k n l d.f0 d.f1 = some r := by
 have hs := T.small
 obtain ⟨A, B, e, hA, hB⟩ := T.cut d hd
 have hlen : l.length = A.length + (B.length + 1) := by rw [e]; simp
 obtain ⟨r, _, r1, r2⟩ := poSorted_tells ((A ++ B) ++ [⟨min x o, max x o⟩]) (by simp; omega) 20000 (by omega)
 refine ⟨r, A, B, e, hA, r1, r2.trans (List.perm_append_singleton _ _), fun k hk => ?_⟩
 ·obtain ⟨k, rfl⟩ : ∃ q, k = q + (l.length + 1) := ⟨k - (l.length + 1), by omega⟩
  have h1 := make_rounds n l d.f0 d.f1 (by omega) l.length 0 (k + (l.length + 1)) [] (by omega) (by simp) (by omega)
  rw [show k + (l.length + 1) - l.length - 1 = k by omega, flOther_tells T d hd x o x1 x2 o1 o2 o3 hap k (by omega), Option.bind_some, List.drop_zero, List.nil_append] at h1
  have hf : l.filter (fun x => !(x.f0 == d.f0) || !(x.f1 == d.f1)) = A ++ B := by
   rw [e, List.filter_append, List.filter_cons]
   have q1 : A.filter (fun x => !(x.f0 == d.f0) || !(x.f1 == d.f1)) = A := by
    rw [List.filter_eq_self]
    intro x hx
    have := hA x hx
    by_cases h : x.f0 = d.f0
    ·have : ¬ x.f1 = d.f1 := fun h2 => this ⟨h, h2⟩
     simp [this]
    ·simp [h]
   have q2 : B.filter (fun x => !(x.f0 == d.f0) || !(x.f1 == d.f1)) = B := by
    rw [List.filter_eq_self]
    intro x hx
    have := hB x hx
    by_cases h : x.f0 = d.f0
    ·have : ¬ x.f1 = d.f1 := fun h2 => this ⟨h, h2⟩
     simp [this]
    ·simp [h]
   rw [q1, q2]
   simp
  rw [hf] at h1
  obtain ⟨r', h2, h3, h4⟩ := poSorted_tells ((A ++ B) ++ [⟨min x o, max x o⟩]) (by simp; omega) k (by omega)
  have er : r' = r := sorted_unique (h4.trans r2.symm) h3 r1
  rw [h2, er, Option.bind_some] at h1
  exact h1

theorem indexD_tells (A B : List DG) (d : DG) (hA : ∀ x ∈ A, ¬ (x.f0 = d.f0 ∧ x.f1 = d.f1)) (hl : (A ++ d :: B).length ≤ 4611686018427387904) (e : Nat) : ∀ (i k : Nat), i + e = A.length → e < k →
  impl_Diagonal_46.l0 k (A ++ d :: B) ((A ++ d :: B).length : Int) (i : Int) d.f0 d.f1 = some (A.length : Int) := by
 have hlen : (A ++ d :: B).length = A.length + (B.length + 1) := by simp
 induction e with
 | zero =>
  intro i k hi hk
  obtain ⟨k, rfl⟩ : ∃ q, k = q + 1 := ⟨k - 1, by omega⟩
  simp only [impl_Diagonal_46.l0]
  rw [if_pos (by omega), if_pos (by omega), if_pos (by omega), rT_mid A d B (i : Int) (by omega), if_pos (by simp)]
  rw [show i = A.length by omega]
 | succ e ih =>
  intro i k hi hk
  obtain ⟨k, rfl⟩ : ∃ q, k = q + 1 := ⟨k - 1, by omega⟩
  have hx : rd_T38 (A ++ d :: B) (i : Int) ∈ A := by
   unfold rd_T38
   rw [Int.toNat_natCast, List.getD_eq_getElem?_getD, List.getElem?_append_left (by omega), List.getElem?_eq_getElem (by omega)]
   exact List.getElem_mem _
  have hn := hA _ hx
  simp only [impl_Diagonal_46.l0]
  rw [if_pos (by omega), if_pos (by omega), if_pos (by omega), wrap_succ i (by omega), ih (i + 1) k (by omega) (by omega), if_neg]
  rw [Bool.and_eq_true, beq_iff_eq, beq_iff_eq]
  exact fun h => hn ⟨h.1.symm, h.2.symm⟩

theorem flip_same {n : Int} {l : List DG} (T : Tri n l) (d : DG) (hd : d ∈ l) (x o : Int) (x1 : d.f0 < x) (x2 : x < d.f1) (o1 : 0 ≤ o) (o2 : o ≤ n - 1) (o3 : o < d.f0 ∨ d.f1 < o)
  (hap : ∀ c, 0 ≤ c → c ≤ n - 1 → c ≠ d.f0 → c ≠ d.f1 → (apB n l d.f0 d.f1 c = true ↔ c = x ∨ c = o)) :
  ∃ r A B, l = A ++ d :: B ∧ r.Pairwise leD ∧ r.Perm (⟨min x o, max x o⟩ :: (A ++ B)) ∧ ∀ k, 20020 < k → spec_flMake.f k n l d.f0 d.f1 = some r ∧ impl_flipped.f k n l d.f0 d.f1 = some r := by
 have hs := T.small
 obtain ⟨r, A, B, e, hA, r1, r2, r3⟩ := flip_spec T d hd x o x1 x2 o1 o2 o3 hap
 have hlen : l.length = A.length + (B.length + 1) := by rw [e]; simp
 refine ⟨r, A, B, e, r1, r2, fun k hk => ⟨r3 k hk, ?_⟩⟩
 ·have h1 := indexD_tells A B d hA (by rw [← e]; omega) A.length 0 k (by omega) (by omega)
  rw [← e] at h1
  obtain ⟨r', h2, h3, h4⟩ := sortFunc_tells (A ++ ⟨min x o, max x o⟩ :: B) (by simp; omega) k (by omega)
  have er : r' = r := by
   refine sorted_unique (h4.trans (List.Perm.trans ?_ r2.symm)) h3 r1
   exact List.perm_middle
  have hset : l.set A.length ⟨min x o, max x o⟩ = A ++ ⟨min x o, max x o⟩ :: B := by
   rw [e, List.set_append_right _ _ (by omega), Nat.sub_self]
   rfl
  have hcl : impl_Diagonal_28.f l = some l := by
   unfold impl_Diagonal_28.f
   rw [if_pos (by omega)]
  have hix : impl_Diagonal_46.f k l d.f0 d.f1 = some (A.length : Int) := h1
  unfold impl_flipped.f
  rw [hcl, Option.bind_some, hix, Option.bind_some, otherOf_tells T d hd x o x1 x2 o1 o2 o3 hap k (by omega), Option.bind_some, if_pos (by omega), if_pos (by omega), Int.toNat_natCast]
  simp only [hset, h2, Option.bind_some, er]

def A1 (n : Int) (a : Nat) (b e : Nat) : List DG := ((List.range' b e).filter fun (b : Nat) => diagB n a b).map fun (b : Nat) => ⟨(a : Int), (b : Int)⟩
def A0 (n : Int) (N : Nat) (a e : Nat) : List DG := (List.range' a e).flatMap fun (a : Nat) => A1 n a (a + 1) (N - (a + 1))
theorem A1_len (n : Int) (a b e : Nat) : (A1 n a b e).length ≤ e := by
 unfold A1
 rw [List.length_map]
 exact Nat.le_trans (List.length_filter_le ..) (by rw [List.length_range']; exact Nat.le_refl _)
theorem all_l1 (n : Int) (N : Nat) (hN : (N : Int) = n) (hn : 3 ≤ n ∧ n ≤ 12) (a : Nat) (r : Option (List DG)) (e : Nat) :
  ∀ (b : Nat) (acc : List DG) (K : Nat), b + e = N → acc.length + e ≤ 4000 → (∀ q, K ≤ q → impl_allDiagonals.l0 q n (acc ++ A1 n a b e) n (wrap64 ((a : Int) + 1)) = r) →
  ∀ q, K + e < q → impl_allDiagonals.l1 q n acc (a : Int) (b : Int) n (a : Int) = r := by
 induction e with
 | zero =>
  intro b acc K he hacc h q hq
  obtain ⟨q, rfl⟩ : ∃ z, q = z + 1 := ⟨q - 1, by omega⟩
  simp only [impl_allDiagonals.l1]
  rw [if_neg (by omega)]
  have := h q (by omega)
  simpa [A1] using this
 | succ e ih =>
  intro b acc K he hacc h q hq
  obtain ⟨q, rfl⟩ : ∃ z, q = z + 1 := ⟨q - 1, by omega⟩
  have hlt : acc.length < 8796093022208 := by omega
  have hA : A1 n a b (e + 1) = (if diagB n a b = true then [(⟨(a : Int), (b : Int)⟩ : DG)] else []) ++ A1 n a (b + 1) e := by
   unfold A1
   rw [List.range'_succ, List.filter_cons]
   split <;> rfl
  simp only [impl_allDiagonals.l1]
  rw [if_pos (by omega), isDiagonal_tells n _ _ hn, Option.bind_some, wrap_succ b (by omega)]
  cases hd : diagB n a b with
  | false =>
   rw [if_neg (by simp)]
   refine ih (b + 1) acc K (by omega) (by omega) ?_ q (by omega)
   intro q' hq'
   have := h q' hq'
   rw [hA, hd, if_neg (by simp), List.nil_append] at this
   exact this
  | true =>
   rw [if_pos rfl, if_pos hlt]
   refine ih (b + 1) _ K (by omega) (by rw [List.length_append, List.length_singleton]; omega) ?_ q (by omega)
   intro q' hq'
   have := h q' hq'
   rw [hA, hd] at this
   simpa using this
theorem all_l0 (n : Int) (N : Nat) (hN : (N : Int) = n) (hn : 3 ≤ n ∧ n ≤ 12) (e : Nat) :
  ∀ (a : Nat) (acc : List DG), a + e = N → acc.length + 12 * e ≤ 3000 → ∀ q, 20 * e < q → impl_allDiagonals.l0 q n acc n (a : Int) = some (acc ++ A0 n N a e) := by
 induction e with
 | zero =>
  intro a acc he hacc q hq
  obtain ⟨q, rfl⟩ : ∃ z, q = z + 1 := ⟨q - 1, by omega⟩
  simp only [impl_allDiagonals.l0]
  rw [if_neg (by omega)]
  have e0 : A0 n N a 0 = [] := rfl
  rw [e0, List.append_nil]
 | succ e ih =>
  intro a acc he hacc q hq
  obtain ⟨q, rfl⟩ : ∃ z, q = z + 1 := ⟨q - 1, by omega⟩
  have hA : A0 n N a (e + 1) = A1 n a (a + 1) (N - (a + 1)) ++ A0 n N (a + 1) e := by
   unfold A0
   rw [List.range'_succ, List.flatMap_cons]
  have hlen := A1_len n a (a + 1) (N - (a + 1))
  rw [hA, ← List.append_assoc]
  simp only [impl_allDiagonals.l0]
  rw [if_pos (by omega), wrap_succ a (by omega)]
  refine all_l1 n N hN hn a _ (N - (a + 1)) (a + 1) acc (20 * e + 1) (by omega) (by omega) ?_ q (by omega)
  intro q' hq'
  rw [wrap_succ a (by omega)]
  exact ih (a + 1) _ (by omega) (by rw [List.length_append]; omega) q' (by omega)
theorem allDiagonals_tells (n : Int) (hn : 3 ≤ n ∧ n ≤ 12) (k : Nat) (hk : 300 < k) : impl_allDiagonals.f k n = some (A0 n n.toNat 0 n.toNat) := by
 have h := all_l0 n n.toNat (by omega) hn n.toNat 0 [] (by omega) (by simp; omega) k (by omega)
 rw [show ((0 : Nat) : Int) = 0 from rfl, List.nil_append] at h
 exact h

theorem lookL_mem (m : Int) : ∀ (r b : List DG), ∀ x ∈ lookL m r b, (x.length : Int) = m
 | [], _ => fun x hx => by cases hx
 | d :: r, b => fun x hx => by
  rw [lookL_cons] at hx
  rcases List.mem_append.1 hx with h | h
  ·split at h
   ·cases h
   ·unfold lookT at h
    split at h
    ·rw [List.mem_singleton.1 h]
     assumption
    ·exact lookL_mem m r _ x h
  ·exact lookL_mem m r b x h
theorem tris_len (n : Int) : ∀ x ∈ trisOf n, (x.length : Int) = n - 3 := by
 intro x hx
 unfold trisOf lookT at hx
 split at hx
 ·rename_i h
  rw [List.mem_singleton.1 hx]
  exact h
 ·exact lookL_mem _ _ _ x hx
theorem poAll_tells (n : Int) (hn : 3 ≤ n ∧ n ≤ 8) : spec_poAll.f n = some (trisOf n) := by
 unfold spec_poAll.f
 rw [if_pos hn]
theorem A0_diags (n : Int) (hn : 3 ≤ n ∧ n ≤ 8) : A0 n n.toNat 0 n.toNat = diagsOf n := by
 have : n = 3 ∨ n = 4 ∨ n = 5 ∨ n = 6 ∨ n = 7 ∨ n = 8 := by omega
 rcases this with rfl | rfl | rfl | rfl | rfl | rfl <;> rfl
theorem allTri_tells (n : Int) (hn : 3 ≤ n ∧ n ≤ 8) (k : Nat) (hk : 300 < k) : impl_allTriangulations.f k n = some (trisOf n) := by
 unfold impl_allTriangulations.f
 rw [allDiagonals_tells n (by omega) k hk, Option.bind_some, A0_diags n hn, if_pos ⟨hn.1, hn.2, diagsOf_le n hn⟩]
 rfl
def NC (b s : List DG) : Prop := s.Pairwise (fun d e => crossP e d = false) ∧ ∀ d ∈ s, ∀ e ∈ b, crossP d e = false
theorem any_false {d : DG} {b : List DG} (h : ∀ e ∈ b, crossP d e = false) : b.any (crossP d) = false := by
 rw [List.any_eq_false]
 intro e he
 rw [h e he]
 simp
theorem lookL_full (m : Int) {r s : List DG} (hs : s.Sublist r) : ∀ b : List DG, NC b s → (b.length : Int) < m → ((b ++ s).length : Int) = m → b ++ s ∈ lookL m r b := by
 induction hs with
 | slnil =>
  intro b _ h1 h2
  rw [List.append_nil] at h2
  omega
 | cons d _ ih =>
  intro b hn h1 h2
  rw [lookL_cons]
  exact List.mem_append_right _ (ih b hn h1 h2)
 | @cons_cons s r d _ ih =>
  intro b hn h1 h2
  rw [lookL_cons]
  refine List.mem_append_left _ ?_
  obtain ⟨p1, p2⟩ := hn
  obtain ⟨q1, q2⟩ := List.pairwise_cons.1 p1
  rw [any_false (p2 d (List.mem_cons_self ..)), if_neg (by simp)]
  have e : b ++ d :: s = (b ++ [d]) ++ s := by simp
  rw [e] at h2 ⊢
  unfold lookT
  by_cases hl : ((b ++ [d]).length : Int) = m
  ·have : s = [] := by
    rw [List.length_append] at h2
    exact List.length_eq_zero_iff.1 (by omega)
   rw [if_pos hl, this, List.append_nil]
   exact List.mem_singleton.2 rfl
  ·rw [if_neg hl]
   refine ih (b ++ [d]) ⟨q2, fun x hx y hy => ?_⟩ ?_ h2
   ·rcases List.mem_append.1 hy with hy | hy
    ·exact p2 x (List.mem_cons_of_mem _ hx) y hy
    ·rw [List.mem_singleton.1 hy]
     exact q1 x hx
   ·rw [List.length_append, List.length_singleton] at hl ⊢
    omega
theorem lookL_only (m : Int) : ∀ (r b : List DG), ∀ x ∈ lookL m r b, ∃ s, s.Sublist r ∧ NC b s ∧ x = b ++ s
 | [], _ => fun x hx => by cases hx
 | d :: r, b => fun x hx => by
  rw [lookL_cons] at hx
  rcases List.mem_append.1 hx with h | h
  ·by_cases ha : b.any (crossP d) = true
   ·rw [if_pos ha] at h
    cases h
   ·rw [if_neg ha] at h
    have hb : ∀ e ∈ b, crossP d e = false := by
     intro e he
     cases hc : crossP d e with
     | false => rfl
     | true => exact absurd (List.any_eq_true.2 ⟨e, he, hc⟩) ha
    unfold lookT at h
    split at h
    ·rw [List.mem_singleton.1 h]
     refine ⟨[d], (List.nil_sublist r).cons_cons d, ⟨List.pairwise_singleton _ _, fun x hx => ?_⟩, rfl⟩
     rw [List.mem_singleton.1 hx]
     exact hb
    ·obtain ⟨s, h1, ⟨h2, h3⟩, h4⟩ := lookL_only m r _ x h
     refine ⟨d :: s, h1.cons_cons d, ⟨List.pairwise_cons.2 ⟨fun y hy => h3 y hy d (by simp), h2⟩, fun y hy => ?_⟩, by rw [h4]; simp⟩
     rcases List.mem_cons.1 hy with e | e
     ·rw [e]
      exact hb
     ·exact fun z hz => h3 y e z (List.mem_append_left _ hz)
  ·obtain ⟨s, h1, h2, h3⟩ := lookL_only m r b x h
   exact ⟨s, h1.cons d, h2, h3⟩
def ltd (x y : DG) : Prop := x.f0 < y.f0 ∨ (x.f0 = y.f0 ∧ x.f1 < y.f1)
instance (x y : DG) : Decidable (ltd x y) := by unfold ltd; exact inferInstance
theorem sub_of_sorted : ∀ (D s : List DG), D.Pairwise ltd → s.Pairwise ltd → (∀ x ∈ s, x ∈ D) → s.Sublist D
 | [], s, _, _, h => by
  cases s with
  | nil => exact List.Sublist.slnil
  | cons x s => exact absurd (h x (List.mem_cons_self ..)) (by simp)
 | y :: D, [], _, _, _ => List.nil_sublist _
 | y :: D, x :: s, hD, hs, h => by
  obtain ⟨d1, d2⟩ := List.pairwise_cons.1 hD
  obtain ⟨s1, s2⟩ := List.pairwise_cons.1 hs
  have irr : ∀ z : DG, ¬ ltd z z := fun z hz => by unfold ltd at hz; omega
  have asy : ∀ z u : DG, ltd z u → ¬ ltd u z := fun z u h1 h2 => by unfold ltd at h1 h2; omega
  have tr : ∀ z u v : DG, ltd z u → ltd u v → ltd z v := fun z u v h1 h2 => by unfold ltd at *; omega
  rcases List.mem_cons.1 (h x (List.mem_cons_self ..)) with e | e
  ·rw [e]
   refine (sub_of_sorted D s d2 s2 (fun z hz => ?_)).cons_cons y
   rcases List.mem_cons.1 (h z (List.mem_cons_of_mem _ hz)) with e2 | e2
   ·have h3 := s1 z hz
    rw [e, e2] at h3
    exact absurd h3 (irr y)
   ·exact e2
  ·have hy := d1 x e
   refine (sub_of_sorted D (x :: s) d2 hs (fun z hz => ?_)).cons y
   rcases List.mem_cons.1 (h z hz) with e2 | e2
   ·rcases List.mem_cons.1 hz with e3 | e3
    ·exact absurd (by have h9 := hy; rw [← e3, e2] at h9; exact h9) (irr y)
    ·have h3 := s1 z e3
     rw [e2] at h3
     exact absurd h3 (asy _ _ hy)
   ·exact e2
theorem diags_mem (n : Int) (hn : 3 ≤ n ∧ n ≤ 8) (d : DG) : d ∈ diagsOf n ↔ (0 ≤ d.f0 ∧ d.f1 ≤ n - 1 ∧ 2 ≤ d.f1 - d.f0 ∧ d.f1 - d.f0 ≤ n - 2) := by
 obtain ⟨a, b⟩ := d
 unfold diagsOf paRows paRow pdB
 simp only [List.mem_flatMap, List.mem_map, List.mem_filter, List.mem_range'_1, decide_eq_true_eq]
 constructor
 ·rintro ⟨x, ⟨h1, h2⟩, y, ⟨⟨h3, h4⟩, h5⟩, h6⟩
  injection h6 with h6 h7
  omega
 ·rintro ⟨h1, h2, h3, h4⟩
  refine ⟨a.toNat, ⟨by omega, by omega⟩, b.toNat, ⟨⟨by omega, by omega⟩, by omega⟩, ?_⟩
  rw [Int.toNat_of_nonneg (by omega), Int.toNat_of_nonneg (by omega)]
theorem diags_sorted (n : Int) (hn : 3 ≤ n ∧ n ≤ 8) : (diagsOf n).Pairwise ltd := by
 have : n = 3 ∨ n = 4 ∨ n = 5 ∨ n = 6 ∨ n = 7 ∨ n = 8 := by omega
 rcases this with rfl | rfl | rfl | rfl | rfl | rfl <;> decide
theorem crossP_of (d e : DG) (h : crossP d e = false) : ¬ (d.f0 < e.f0 ∧ e.f0 < d.f1 ∧ d.f1 < e.f1) ∧ ¬ (e.f0 < d.f0 ∧ d.f0 < e.f1 ∧ e.f1 < d.f1) := by
 unfold crossP at h
 rw [Bool.or_eq_false_iff, decide_eq_false_iff_not, decide_eq_false_iff_not] at h
 exact h
theorem crossP_no {d e : DG} (h1 : ¬ (d.f0 < e.f0 ∧ e.f0 < d.f1 ∧ d.f1 < e.f1)) (h2 : ¬ (e.f0 < d.f0 ∧ d.f0 < e.f1 ∧ e.f1 < d.f1)) : crossP d e = false := by
 unfold crossP
 rw [Bool.or_eq_false_iff, decide_eq_false_iff_not, decide_eq_false_iff_not]
 exact ⟨h1, h2⟩
theorem tris_only (n : Int) (hn : 3 ≤ n ∧ n ≤ 8) (x : List DG) (hx : x ∈ trisOf n) : Tri n x := by
 have hlen := tris_len n x hx
 have hs : ∃ s, s.Sublist (diagsOf n) ∧ NC [] s ∧ x = s := by
  unfold trisOf lookT at hx
  split at hx
  ·exact ⟨[], List.nil_sublist _, ⟨List.Pairwise.nil, fun d hd => by cases hd⟩, List.mem_singleton.1 hx⟩
  ·exact lookL_only _ _ _ x hx
 obtain ⟨s, h1, ⟨h2, _⟩, rfl⟩ := hs
 refine ⟨by omega, hlen, fun d hd => (diags_mem n hn d).1 (h1.subset hd), ?_, (diags_sorted n hn).sublist h1⟩
 have key : ∀ (l : List DG), l.Pairwise (fun d e => crossP e d = false) → ∀ d ∈ l, ∀ e ∈ l, ¬ (d.f0 < e.f0 ∧ e.f0 < d.f1 ∧ d.f1 < e.f1) := by
  intro l
  induction l with
  | nil => intro _ d hd; cases hd
  | cons y l ih =>
   intro hp d hd e he
   obtain ⟨p1, p2⟩ := List.pairwise_cons.1 hp
   rcases List.mem_cons.1 hd with hd2 | hd2
   ·rcases List.mem_cons.1 he with he2 | he2
    ·rw [hd2, he2]
     omega
    ·rw [hd2]
     exact (crossP_of _ _ (p1 e he2)).2
   ·rcases List.mem_cons.1 he with he2 | he2
    ·rw [he2]
     exact (crossP_of _ _ (p1 d hd2)).1
    ·exact ih p2 d hd2 e he2
 exact key _ h2
theorem tris_full (n : Int) (hn : 3 ≤ n ∧ n ≤ 8) (x : List DG) (T : Tri n x) : x ∈ trisOf n := by
 have hsub : x.Sublist (diagsOf n) := sub_of_sorted _ _ (diags_sorted n hn) T.sorted (fun d hd => (diags_mem n hn d).2 (T.ok d hd))
 have hnc : NC [] x := by
  refine ⟨?_, fun d _ e he => by cases he⟩
  refine List.Pairwise.imp_of_mem (R := fun _ _ => True) ?_ (List.pairwise_of_forall (fun _ _ => trivial))
  intro d e hd he _
  exact crossP_no (T.nc e he d hd) (T.nc d hd e he)
 have hl := T.len
 unfold trisOf lookT
 by_cases h : (([] : List DG).length : Int) = n - 3
 ·rw [if_pos h]
  have : x = [] := List.length_eq_zero_iff.1 (by simp at h; omega)
  rw [this]
  exact List.mem_singleton.2 rfl
 ·rw [if_neg h]
  exact lookL_full (n - 3) hsub [] hnc (by simp at h ⊢; omega) (by simpa using hl)

def eqL : List DG → List DG → Bool
 | [], [] => true
 | x :: l, y :: m => (x.f0 == y.f0 && x.f1 == y.f1) && eqL l m
 | _, _ => false
theorem eqL_iff : ∀ (l m : List DG), eqL l m = true ↔ l = m
 | [], [] => by simp [eqL]
 | [], y :: m => by simp [eqL]
 | x :: l, [] => by simp [eqL]
 | x :: l, y :: m => by
  obtain ⟨a, b⟩ := x
  obtain ⟨c, d⟩ := y
  rw [eqL, Bool.and_eq_true, Bool.and_eq_true, eqL_iff l m, beq_iff_eq, beq_iff_eq]
  simp
theorem eqL_len : ∀ (l m : List DG), eqL l m = true → l.length = m.length := fun l m h => by rw [(eqL_iff l m).1 h]
theorem sameis_rounds (l m : List DG) (hlm : l.length = m.length) (hl : l.length ≤ 1048576) (e : Nat) : ∀ (i : Nat), i + e = l.length → ∀ k, e < k → spec_poSame.l0 k l m (l.length : Int) (i : Int) = some (eqL (l.drop i) (m.drop i)) := by
 induction e with
 | zero =>
  intro i hi k hk
  obtain ⟨k, rfl⟩ : ∃ q, k = q + 1 := ⟨k - 1, by omega⟩
  simp only [spec_poSame.l0]
  rw [if_neg (by omega), List.drop_of_length_le (by omega), List.drop_of_length_le (by omega)]
  rfl
 | succ e ih =>
  intro i hi k hk
  obtain ⟨k, rfl⟩ : ∃ q, k = q + 1 := ⟨k - 1, by omega⟩
  rw [rD_drop l i (by omega), rD_drop m i (by omega), eqL]
  simp only [spec_poSame.l0]
  rw [if_pos (by omega), if_pos (by omega), if_pos (by omega), if_pos (by omega)]
  cases h1 : (rD l i).f0 == (rD m i).f0 <;> cases h2 : (rD l i).f1 == (rD m i).f1
  ·rw [if_pos (by simp)]; simp
  ·rw [if_pos (by simp)]; simp
  ·rw [if_pos (by simp)]; simp
  ·rw [if_neg (by simp), wrap_succ i (by omega), ih (i + 1) (by omega) k (by omega)]; simp
theorem same_is (l m : List DG) (hl : l.length ≤ 1048576) (k : Nat) (hk : l.length < k) : spec_poSame.f k l m = some (eqL l m) := by
 unfold spec_poSame.f
 by_cases h : l.length = m.length
 ·rw [if_pos (by omega)]
  exact sameis_rounds l m h hl l.length 0 (by omega) k hk
 ·rw [if_neg (by omega)]
  cases he : eqL l m with
  | false => rfl
  | true => exact absurd (eqL_len l m he) h

def triT : Nat → List (List DG)
 | 3 => [[]]
 | 4 => [[⟨0, 2⟩], [⟨1, 3⟩]]
 | 5 => [[⟨0, 2⟩, ⟨0, 3⟩], [⟨0, 2⟩, ⟨2, 4⟩], [⟨0, 3⟩, ⟨1, 3⟩], [⟨1, 3⟩, ⟨1, 4⟩], [⟨1, 4⟩, ⟨2, 4⟩]]
 | 6 => [[⟨0, 2⟩, ⟨0, 3⟩, ⟨0, 4⟩], [⟨0, 2⟩, ⟨0, 3⟩, ⟨3, 5⟩], [⟨0, 2⟩, ⟨0, 4⟩, ⟨2, 4⟩], [⟨0, 2⟩, ⟨2, 4⟩, ⟨2, 5⟩], [⟨0, 2⟩, ⟨2, 5⟩, ⟨3, 5⟩], [⟨0, 3⟩, ⟨0, 4⟩, ⟨1, 3⟩], [⟨0, 3⟩, ⟨1, 3⟩, ⟨3, 5⟩], [⟨0, 4⟩, ⟨1, 3⟩, ⟨1, 4⟩], [⟨0, 4⟩, ⟨1, 4⟩, ⟨2, 4⟩], [⟨1, 3⟩, ⟨1, 4⟩, ⟨1, 5⟩], [⟨1, 3⟩, ⟨1, 5⟩, ⟨3, 5⟩], [⟨1, 4⟩, ⟨1, 5⟩, ⟨2, 4⟩], [⟨1, 5⟩, ⟨2, 4⟩, ⟨2, 5⟩], [⟨1, 5⟩, ⟨2, 5⟩, ⟨3, 5⟩]]
 | 7 => [[⟨0, 2⟩, ⟨0, 3⟩, ⟨0, 4⟩, ⟨0, 5⟩], [⟨0, 2⟩, ⟨0, 3⟩, ⟨0, 4⟩, ⟨4, 6⟩], [⟨0, 2⟩, ⟨0, 3⟩, ⟨0, 5⟩, ⟨3, 5⟩], [⟨0, 2⟩, ⟨0, 3⟩, ⟨3, 5⟩, ⟨3, 6⟩], [⟨0, 2⟩, ⟨0, 3⟩, ⟨3, 6⟩, ⟨4, 6⟩], [⟨0, 2⟩, ⟨0, 4⟩, ⟨0, 5⟩, ⟨2, 4⟩], [⟨0, 2⟩, ⟨0, 4⟩, ⟨2, 4⟩, ⟨4, 6⟩], [⟨0, 2⟩, ⟨0, 5⟩, ⟨2, 4⟩, ⟨2, 5⟩], [⟨0, 2⟩, ⟨0, 5⟩, ⟨2, 5⟩, ⟨3, 5⟩], [⟨0, 2⟩, ⟨2, 4⟩, ⟨2, 5⟩, ⟨2, 6⟩], [⟨0, 2⟩, ⟨2, 4⟩, ⟨2, 6⟩, ⟨4, 6⟩], [⟨0, 2⟩, ⟨2, 5⟩, ⟨2, 6⟩, ⟨3, 5⟩], [⟨0, 2⟩, ⟨2, 6⟩, ⟨3, 5⟩, ⟨3, 6⟩], [⟨0, 2⟩, ⟨2, 6⟩, ⟨3, 6⟩, ⟨4, 6⟩], [⟨0, 3⟩, ⟨0, 4⟩, ⟨0, 5⟩, ⟨1, 3⟩], [⟨0, 3⟩, ⟨0, 4⟩, ⟨1, 3⟩, ⟨4, 6⟩], [⟨0, 3⟩, ⟨0, 5⟩, ⟨1, 3⟩, ⟨3, 5⟩], [⟨0, 3⟩, ⟨1, 3⟩, ⟨3, 5⟩, ⟨3, 6⟩], [⟨0, 3⟩, ⟨1, 3⟩, ⟨3, 6⟩, ⟨4, 6⟩], [⟨0, 4⟩, ⟨0, 5⟩, ⟨1, 3⟩, ⟨1, 4⟩], [⟨0, 4⟩, ⟨0, 5⟩, ⟨1, 4⟩, ⟨2, 4⟩], [⟨0, 4⟩, ⟨1, 3⟩, ⟨1, 4⟩, ⟨4, 6⟩], [⟨0, 4⟩, ⟨1, 4⟩, ⟨2, 4⟩, ⟨4, 6⟩], [⟨0, 5⟩, ⟨1, 3⟩, ⟨1, 4⟩, ⟨1, 5⟩], [⟨0, 5⟩, ⟨1, 3⟩, ⟨1, 5⟩, ⟨3, 5⟩], [⟨0, 5⟩, ⟨1, 4⟩, ⟨1, 5⟩, ⟨2, 4⟩], [⟨0, 5⟩, ⟨1, 5⟩, ⟨2, 4⟩, ⟨2, 5⟩], [⟨0, 5⟩, ⟨1, 5⟩, ⟨2, 5⟩, ⟨3, 5⟩], [⟨1, 3⟩, ⟨1, 4⟩, ⟨1, 5⟩, ⟨1, 6⟩], [⟨1, 3⟩, ⟨1, 4⟩, ⟨1, 6⟩, ⟨4, 6⟩], [⟨1, 3⟩, ⟨1, 5⟩, ⟨1, 6⟩, ⟨3, 5⟩], [⟨1, 3⟩, ⟨1, 6⟩, ⟨3, 5⟩, ⟨3, 6⟩], [⟨1, 3⟩, ⟨1, 6⟩, ⟨3, 6⟩, ⟨4, 6⟩], [⟨1, 4⟩, ⟨1, 5⟩, ⟨1, 6⟩, ⟨2, 4⟩], [⟨1, 4⟩, ⟨1, 6⟩, ⟨2, 4⟩, ⟨4, 6⟩], [⟨1, 5⟩, ⟨1, 6⟩, ⟨2, 4⟩, ⟨2, 5⟩], [⟨1, 5⟩, ⟨1, 6⟩, ⟨2, 5⟩, ⟨3, 5⟩], [⟨1, 6⟩, ⟨2, 4⟩, ⟨2, 5⟩, ⟨2, 6⟩], [⟨1, 6⟩, ⟨2, 4⟩, ⟨2, 6⟩, ⟨4, 6⟩], [⟨1, 6⟩, ⟨2, 5⟩, ⟨2, 6⟩, ⟨3, 5⟩], [⟨1, 6⟩, ⟨2, 6⟩, ⟨3, 5⟩, ⟨3, 6⟩], [⟨1, 6⟩, ⟨2, 6⟩, ⟨3, 6⟩, ⟨4, 6⟩]]
 | 8 => [[⟨0, 2⟩, ⟨0, 3⟩, ⟨0, 4⟩, ⟨0, 5⟩, ⟨0, 6⟩], [⟨0, 2⟩, ⟨0, 3⟩, ⟨0, 4⟩, ⟨0, 5⟩, ⟨5, 7⟩], [⟨0, 2⟩, ⟨0, 3⟩, ⟨0, 4⟩, ⟨0, 6⟩, ⟨4, 6⟩], [⟨0, 2⟩, ⟨0, 3⟩, ⟨0, 4⟩, ⟨4, 6⟩, ⟨4, 7⟩], [⟨0, 2⟩, ⟨0, 3⟩, ⟨0, 4⟩, ⟨4, 7⟩, ⟨5, 7⟩], [⟨0, 2⟩, ⟨0, 3⟩, ⟨0, 5⟩, ⟨0, 6⟩, ⟨3, 5⟩], [⟨0, 2⟩, ⟨0, 3⟩, ⟨0, 5⟩, ⟨3, 5⟩, ⟨5, 7⟩], [⟨0, 2⟩, ⟨0, 3⟩, ⟨0, 6⟩, ⟨3, 5⟩, ⟨3, 6⟩], [⟨0, 2⟩, ⟨0, 3⟩, ⟨0, 6⟩, ⟨3, 6⟩, ⟨4, 6⟩], [⟨0, 2⟩, ⟨0, 3⟩, ⟨3, 5⟩, ⟨3, 6⟩, ⟨3, 7⟩], [⟨0, 2⟩, ⟨0, 3⟩, ⟨3, 5⟩, ⟨3, 7⟩, ⟨5, 7⟩], [⟨0, 2⟩, ⟨0, 3⟩, ⟨3, 6⟩, ⟨3, 7⟩, ⟨4, 6⟩], [⟨0, 2⟩, ⟨0, 3⟩, ⟨3, 7⟩, ⟨4, 6⟩, ⟨4, 7⟩], [⟨0, 2⟩, ⟨0, 3⟩, ⟨3, 7⟩, ⟨4, 7⟩, ⟨5, 7⟩], [⟨0, 2⟩, ⟨0, 4⟩, ⟨0, 5⟩, ⟨0, 6⟩, ⟨2, 4⟩], [⟨0, 2⟩, ⟨0, 4⟩, ⟨0, 5⟩, ⟨2, 4⟩, ⟨5, 7⟩], [⟨0, 2⟩, ⟨0, 4⟩, ⟨0, 6⟩, ⟨2, 4⟩, ⟨4, 6⟩], [⟨0, 2⟩, ⟨0, 4⟩, ⟨2, 4⟩, ⟨4, 6⟩, ⟨4, 7⟩], [⟨0, 2⟩, ⟨0, 4⟩, ⟨2, 4⟩, ⟨4, 7⟩, ⟨5, 7⟩], [⟨0, 2⟩, ⟨0, 5⟩, ⟨0, 6⟩, ⟨2, 4⟩, ⟨2, 5⟩], [⟨0, 2⟩, ⟨0, 5⟩, ⟨0, 6⟩, ⟨2, 5⟩, ⟨3, 5⟩], [⟨0, 2⟩, ⟨0, 5⟩, ⟨2, 4⟩, ⟨2, 5⟩, ⟨5, 7⟩], [⟨0, 2⟩, ⟨0, 5⟩, ⟨2, 5⟩, ⟨3, 5⟩, ⟨5, 7⟩], [⟨0, 2⟩, ⟨0, 6⟩, ⟨2, 4⟩, ⟨2, 5⟩, ⟨2, 6⟩], [⟨0, 2⟩, ⟨0, 6⟩, ⟨2, 4⟩, ⟨2, 6⟩, ⟨4, 6⟩], [⟨0, 2⟩, ⟨0, 6⟩, ⟨2, 5⟩, ⟨2, 6⟩, ⟨3, 5⟩], [⟨0, 2⟩, ⟨0, 6⟩, ⟨2, 6⟩, ⟨3, 5⟩, ⟨3, 6⟩], [⟨0, 2⟩, ⟨0, 6⟩, ⟨2, 6⟩, ⟨3, 6⟩, ⟨4, 6⟩], [⟨0, 2⟩, ⟨2, 4⟩, ⟨2, 5⟩, ⟨2, 6⟩, ⟨2, 7⟩], [⟨0, 2⟩, ⟨2, 4⟩, ⟨2, 5⟩, ⟨2, 7⟩, ⟨5, 7⟩], [⟨0, 2⟩, ⟨2, 4⟩, ⟨2, 6⟩, ⟨2, 7⟩, ⟨4, 6⟩], [⟨0, 2⟩, ⟨2, 4⟩, ⟨2, 7⟩, ⟨4, 6⟩, ⟨4, 7⟩], [⟨0, 2⟩, ⟨2, 4⟩, ⟨2, 7⟩, ⟨4, 7⟩, ⟨5, 7⟩], [⟨0, 2⟩, ⟨2, 5⟩, ⟨2, 6⟩, ⟨2, 7⟩, ⟨3, 5⟩], [⟨0, 2⟩, ⟨2, 5⟩, ⟨2, 7⟩, ⟨3, 5⟩, ⟨5, 7⟩], [⟨0, 2⟩, ⟨2, 6⟩, ⟨2, 7⟩, ⟨3, 5⟩, ⟨3, 6⟩], [⟨0, 2⟩, ⟨2, 6⟩, ⟨2, 7⟩, ⟨3, 6⟩, ⟨4, 6⟩], [⟨0, 2⟩, ⟨2, 7⟩, ⟨3, 5⟩, ⟨3, 6⟩, ⟨3, 7⟩], [⟨0, 2⟩, ⟨2, 7⟩, ⟨3, 5⟩, ⟨3, 7⟩, ⟨5, 7⟩], [⟨0, 2⟩, ⟨2, 7⟩, ⟨3, 6⟩, ⟨3, 7⟩, ⟨4, 6⟩], [⟨0, 2⟩, ⟨2, 7⟩, ⟨3, 7⟩, ⟨4, 6⟩, ⟨4, 7⟩], [⟨0, 2⟩, ⟨2, 7⟩, ⟨3, 7⟩, ⟨4, 7⟩, ⟨5, 7⟩], [⟨0, 3⟩, ⟨0, 4⟩, ⟨0, 5⟩, ⟨0, 6⟩, ⟨1, 3⟩], [⟨0, 3⟩, ⟨0, 4⟩, ⟨0, 5⟩, ⟨1, 3⟩, ⟨5, 7⟩], [⟨0, 3⟩, ⟨0, 4⟩, ⟨0, 6⟩, ⟨1, 3⟩, ⟨4, 6⟩], [⟨0, 3⟩, ⟨0, 4⟩, ⟨1, 3⟩, ⟨4, 6⟩, ⟨4, 7⟩], [⟨0, 3⟩, ⟨0, 4⟩, ⟨1, 3⟩, ⟨4, 7⟩, ⟨5, 7⟩], [⟨0, 3⟩, ⟨0, 5⟩, ⟨0, 6⟩, ⟨1, 3⟩, ⟨3, 5⟩], [⟨0, 3⟩, ⟨0, 5⟩, ⟨1, 3⟩, ⟨3, 5⟩, ⟨5, 7⟩], [⟨0, 3⟩, ⟨0, 6⟩, ⟨1, 3⟩, ⟨3, 5⟩, ⟨3, 6⟩], [⟨0, 3⟩, ⟨0, 6⟩, ⟨1, 3⟩, ⟨3, 6⟩, ⟨4, 6⟩], [⟨0, 3⟩, ⟨1, 3⟩, ⟨3, 5⟩, ⟨3, 6⟩, ⟨3, 7⟩], [⟨0, 3⟩, ⟨1, 3⟩, ⟨3, 5⟩, ⟨3, 7⟩, ⟨5, 7⟩], [⟨0, 3⟩, ⟨1, 3⟩, ⟨3, 6⟩, ⟨3, 7⟩, ⟨4, 6⟩], [⟨0, 3⟩, ⟨1, 3⟩, ⟨3, 7⟩, ⟨4, 6⟩, ⟨4, 7⟩], [⟨0, 3⟩, ⟨1, 3⟩, ⟨3, 7⟩, ⟨4, 7⟩, ⟨5, 7⟩], [⟨0, 4⟩, ⟨0, 5⟩, ⟨0, 6⟩, ⟨1, 3⟩, ⟨1, 4⟩], [⟨0, 4⟩, ⟨0, 5⟩, ⟨0, 6⟩, ⟨1, 4⟩, ⟨2, 4⟩], [⟨0, 4⟩, ⟨0, 5⟩, ⟨1, 3⟩, ⟨1, 4⟩, ⟨5, 7⟩], [⟨0, 4⟩, ⟨0, 5⟩, ⟨1, 4⟩, ⟨2, 4⟩, ⟨5, 7⟩], [⟨0, 4⟩, ⟨0, 6⟩, ⟨1, 3⟩, ⟨1, 4⟩, ⟨4, 6⟩], [⟨0, 4⟩, ⟨0, 6⟩, ⟨1, 4⟩, ⟨2, 4⟩, ⟨4, 6⟩], [⟨0, 4⟩, ⟨1, 3⟩, ⟨1, 4⟩, ⟨4, 6⟩, ⟨4, 7⟩], [⟨0, 4⟩, ⟨1, 3⟩, ⟨1, 4⟩, ⟨4, 7⟩, ⟨5, 7⟩], [⟨0, 4⟩, ⟨1, 4⟩, ⟨2, 4⟩, ⟨4, 6⟩, ⟨4, 7⟩], [⟨0, 4⟩, ⟨1, 4⟩, ⟨2, 4⟩, ⟨4, 7⟩, ⟨5, 7⟩], [⟨0, 5⟩, ⟨0, 6⟩, ⟨1, 3⟩, ⟨1, 4⟩, ⟨1, 5⟩], [⟨0, 5⟩, ⟨0, 6⟩, ⟨1, 3⟩, ⟨1, 5⟩, ⟨3, 5⟩], [⟨0, 5⟩, ⟨0, 6⟩, ⟨1, 4⟩, ⟨1, 5⟩, ⟨2, 4⟩], [⟨0, 5⟩, ⟨0, 6⟩, ⟨1, 5⟩, ⟨2, 4⟩, ⟨2, 5⟩], [⟨0, 5⟩, ⟨0, 6⟩, ⟨1, 5⟩, ⟨2, 5⟩, ⟨3, 5⟩], [⟨0, 5⟩, ⟨1, 3⟩, ⟨1, 4⟩, ⟨1, 5⟩, ⟨5, 7⟩], [⟨0, 5⟩, ⟨1, 3⟩, ⟨1, 5⟩, ⟨3, 5⟩, ⟨5, 7⟩], [⟨0, 5⟩, ⟨1, 4⟩, ⟨1, 5⟩, ⟨2, 4⟩, ⟨5, 7⟩], [⟨0, 5⟩, ⟨1, 5⟩, ⟨2, 4⟩, ⟨2, 5⟩, ⟨5, 7⟩], [⟨0, 5⟩, ⟨1, 5⟩, ⟨2, 5⟩, ⟨3, 5⟩, ⟨5, 7⟩], [⟨0, 6⟩, ⟨1, 3⟩, ⟨1, 4⟩, ⟨1, 5⟩, ⟨1, 6⟩], [⟨0, 6⟩, ⟨1, 3⟩, ⟨1, 4⟩, ⟨1, 6⟩, ⟨4, 6⟩], [⟨0, 6⟩, ⟨1, 3⟩, ⟨1, 5⟩, ⟨1, 6⟩, ⟨3, 5⟩], [⟨0, 6⟩, ⟨1, 3⟩, ⟨1, 6⟩, ⟨3, 5⟩, ⟨3, 6⟩], [⟨0, 6⟩, ⟨1, 3⟩, ⟨1, 6⟩, ⟨3, 6⟩, ⟨4, 6⟩], [⟨0, 6⟩, ⟨1, 4⟩, ⟨1, 5⟩, ⟨1, 6⟩, ⟨2, 4⟩], [⟨0, 6⟩, ⟨1, 4⟩, ⟨1, 6⟩, ⟨2, 4⟩, ⟨4, 6⟩], [⟨0, 6⟩, ⟨1, 5⟩, ⟨1, 6⟩, ⟨2, 4⟩, ⟨2, 5⟩], [⟨0, 6⟩, ⟨1, 5⟩, ⟨1, 6⟩, ⟨2, 5⟩, ⟨3, 5⟩], [⟨0, 6⟩, ⟨1, 6⟩, ⟨2, 4⟩, ⟨2, 5⟩, ⟨2, 6⟩], [⟨0, 6⟩, ⟨1, 6⟩, ⟨2, 4⟩, ⟨2, 6⟩, ⟨4, 6⟩], [⟨0, 6⟩, ⟨1, 6⟩, ⟨2, 5⟩, ⟨2, 6⟩, ⟨3, 5⟩], [⟨0, 6⟩, ⟨1, 6⟩, ⟨2, 6⟩, ⟨3, 5⟩, ⟨3, 6⟩], [⟨0, 6⟩, ⟨1, 6⟩, ⟨2, 6⟩, ⟨3, 6⟩, ⟨4, 6⟩], [⟨1, 3⟩, ⟨1, 4⟩, ⟨1, 5⟩, ⟨1, 6⟩, ⟨1, 7⟩], [⟨1, 3⟩, ⟨1, 4⟩, ⟨1, 5⟩, ⟨1, 7⟩, ⟨5, 7⟩], [⟨1, 3⟩, ⟨1, 4⟩, ⟨1, 6⟩, ⟨1, 7⟩, ⟨4, 6⟩], [⟨1, 3⟩, ⟨1, 4⟩, ⟨1, 7⟩, ⟨4, 6⟩, ⟨4, 7⟩], [⟨1, 3⟩, ⟨1, 4⟩, ⟨1, 7⟩, ⟨4, 7⟩, ⟨5, 7⟩], [⟨1, 3⟩, ⟨1, 5⟩, ⟨1, 6⟩, ⟨1, 7⟩, ⟨3, 5⟩], [⟨1, 3⟩, ⟨1, 5⟩, ⟨1, 7⟩, ⟨3, 5⟩, ⟨5, 7⟩], [⟨1, 3⟩, ⟨1, 6⟩, ⟨1, 7⟩, ⟨3, 5⟩, ⟨3, 6⟩], [⟨1, 3⟩, ⟨1, 6⟩, ⟨1, 7⟩, ⟨3, 6⟩, ⟨4, 6⟩], [⟨1, 3⟩, ⟨1, 7⟩, ⟨3, 5⟩, ⟨3, 6⟩, ⟨3, 7⟩], [⟨1, 3⟩, ⟨1, 7⟩, ⟨3, 5⟩, ⟨3, 7⟩, ⟨5, 7⟩], [⟨1, 3⟩, ⟨1, 7⟩, ⟨3, 6⟩, ⟨3, 7⟩, ⟨4, 6⟩], [⟨1, 3⟩, ⟨1, 7⟩, ⟨3, 7⟩, ⟨4, 6⟩, ⟨4, 7⟩], [⟨1, 3⟩, ⟨1, 7⟩, ⟨3, 7⟩, ⟨4, 7⟩, ⟨5, 7⟩], [⟨1, 4⟩, ⟨1, 5⟩, ⟨1, 6⟩, ⟨1, 7⟩, ⟨2, 4⟩], [⟨1, 4⟩, ⟨1, 5⟩, ⟨1, 7⟩, ⟨2, 4⟩, ⟨5, 7⟩], [⟨1, 4⟩, ⟨1, 6⟩, ⟨1, 7⟩, ⟨2, 4⟩, ⟨4, 6⟩], [⟨1, 4⟩, ⟨1, 7⟩, ⟨2, 4⟩, ⟨4, 6⟩, ⟨4, 7⟩], [⟨1, 4⟩, ⟨1, 7⟩, ⟨2, 4⟩, ⟨4, 7⟩, ⟨5, 7⟩], [⟨1, 5⟩, ⟨1, 6⟩, ⟨1, 7⟩, ⟨2, 4⟩, ⟨2, 5⟩], [⟨1, 5⟩, ⟨1, 6⟩, ⟨1, 7⟩, ⟨2, 5⟩, ⟨3, 5⟩], [⟨1, 5⟩, ⟨1, 7⟩, ⟨2, 4⟩, ⟨2, 5⟩, ⟨5, 7⟩], [⟨1, 5⟩, ⟨1, 7⟩, ⟨2, 5⟩, ⟨3, 5⟩, ⟨5, 7⟩], [⟨1, 6⟩, ⟨1, 7⟩, ⟨2, 4⟩, ⟨2, 5⟩, ⟨2, 6⟩], [⟨1, 6⟩, ⟨1, 7⟩, ⟨2, 4⟩, ⟨2, 6⟩, ⟨4, 6⟩], [⟨1, 6⟩, ⟨1, 7⟩, ⟨2, 5⟩, ⟨2, 6⟩, ⟨3, 5⟩], [⟨1, 6⟩, ⟨1, 7⟩, ⟨2, 6⟩, ⟨3, 5⟩, ⟨3, 6⟩], [⟨1, 6⟩, ⟨1, 7⟩, ⟨2, 6⟩, ⟨3, 6⟩, ⟨4, 6⟩], [⟨1, 7⟩, ⟨2, 4⟩, ⟨2, 5⟩, ⟨2, 6⟩, ⟨2, 7⟩], [⟨1, 7⟩, ⟨2, 4⟩, ⟨2, 5⟩, ⟨2, 7⟩, ⟨5, 7⟩], [⟨1, 7⟩, ⟨2, 4⟩, ⟨2, 6⟩, ⟨2, 7⟩, ⟨4, 6⟩], [⟨1, 7⟩, ⟨2, 4⟩, ⟨2, 7⟩, ⟨4, 6⟩, ⟨4, 7⟩], [⟨1, 7⟩, ⟨2, 4⟩, ⟨2, 7⟩, ⟨4, 7⟩, ⟨5, 7⟩], [⟨1, 7⟩, ⟨2, 5⟩, ⟨2, 6⟩, ⟨2, 7⟩, ⟨3, 5⟩], [⟨1, 7⟩, ⟨2, 5⟩, ⟨2, 7⟩, ⟨3, 5⟩, ⟨5, 7⟩], [⟨1, 7⟩, ⟨2, 6⟩, ⟨2, 7⟩, ⟨3, 5⟩, ⟨3, 6⟩], [⟨1, 7⟩, ⟨2, 6⟩, ⟨2, 7⟩, ⟨3, 6⟩, ⟨4, 6⟩], [⟨1, 7⟩, ⟨2, 7⟩, ⟨3, 5⟩, ⟨3, 6⟩, ⟨3, 7⟩], [⟨1, 7⟩, ⟨2, 7⟩, ⟨3, 5⟩, ⟨3, 7⟩, ⟨5, 7⟩], [⟨1, 7⟩, ⟨2, 7⟩, ⟨3, 6⟩, ⟨3, 7⟩, ⟨4, 6⟩], [⟨1, 7⟩, ⟨2, 7⟩, ⟨3, 7⟩, ⟨4, 6⟩, ⟨4, 7⟩], [⟨1, 7⟩, ⟨2, 7⟩, ⟨3, 7⟩, ⟨4, 7⟩, ⟨5, 7⟩]]
 | _ => []
def adjT : Nat → List (List Nat)
 | 3 => [[]]
 | 4 => [[1], [0]]
 | 5 => [[2, 1], [4, 0], [3, 0], [4, 2], [1, 3]]
 | 6 => [[5, 2, 1], [6, 4, 0], [8, 3, 0], [12, 4, 2], [13, 1, 3], [7, 6, 0], [10, 1, 5], [9, 8, 5], [11, 2, 7], [11, 10, 7], [13, 6, 9], [12, 8, 9], [3, 13, 11], [4, 10, 12]]
 | 7 => [[14, 5, 2, 1], [15, 6, 4, 0], [16, 8, 3, 0], [17, 12, 4, 2], [18, 13, 1, 3], [20, 7, 6, 0], [22, 10, 1, 5], [26, 9, 8, 5], [27, 11, 2, 7], [37, 11, 10, 7], [38, 13, 6, 9], [39, 12, 8, 9], [40, 3, 13, 11], [41, 4, 10, 12], [19, 16, 15, 0], [21, 18, 1, 14], [24, 17, 2, 14], [31, 3, 18, 16], [32, 4, 15, 17], [23, 21, 20, 14], [25, 22, 5, 19], [29, 22, 15, 19], [34, 6, 21, 20], [28, 25, 24, 19], [30, 27, 16, 23], [33, 26, 20, 23], [35, 7, 27, 25], [36, 8, 24, 26], [33, 30, 29, 23], [34, 32, 21, 28], [36, 31, 24, 28], [40, 17, 32, 30], [41, 18, 29, 31], [35, 34, 25, 28], [38, 22, 29, 33], [37, 26, 36, 33], [39, 27, 30, 35], [9, 39, 38, 35], [10, 41, 34, 37], [11, 40, 36, 37], [12, 31, 41, 39], [13, 32, 38, 40]]
 | 8 => [[42, 14, 5, 2, 1], [43, 15, 6, 4, 0], [44, 16, 8, 3, 0], [45, 17, 12, 4, 2], [46, 18, 13, 1, 3], [47, 20, 7, 6, 0], [48, 22, 10, 1, 5], [49, 26, 9, 8, 5], [50, 27, 11, 2, 7], [51, 37, 11, 10, 7], [52, 38, 13, 6, 9], [53, 39, 12, 8, 9], [54, 40, 3, 13, 11], [55, 41, 4, 10, 12], [57, 19, 16, 15, 0], [59, 21, 18, 1, 14], [61, 24, 17, 2, 14], [64, 31, 3, 18, 16], [65, 32, 4, 15, 17], [69, 23, 21, 20, 14], [70, 25, 22, 5, 19], [74, 29, 22, 15, 19], [75, 34, 6, 21, 20], [85, 28, 25, 24, 19], [86, 30, 27, 16, 23], [87, 33, 26, 20, 23], [88, 35, 7, 27, 25], [89, 36, 8, 24, 26], [118, 33, 30, 29, 23], [119, 34, 32, 21, 28], [120, 36, 31, 24, 28], [121, 40, 17, 32, 30], [122, 41, 18, 29, 31], [123, 35, 34, 25, 28], [124, 38, 22, 29, 33], [125, 37, 26, 36, 33], [126, 39, 27, 30, 35], [127, 9, 39, 38, 35], [128, 10, 41, 34, 37], [129, 11, 40, 36, 37], [130, 12, 31, 41, 39], [131, 13, 32, 38, 40], [56, 47, 44, 43, 0], [58, 48, 46, 1, 42], [60, 50, 45, 2, 42], [62, 54, 3, 46, 44], [63, 55, 4, 43, 45], [67, 49, 48, 5, 42], [72, 52, 6, 43, 47], [79, 51, 7, 50, 47], [80, 53, 8, 44, 49], [99, 9, 53, 52, 49], [100, 10, 55, 48, 51], [101, 11, 54, 50, 51], [102, 12, 45, 55, 53], [103, 13, 46, 52, 54], [66, 60, 58, 57, 42], [68, 61, 59, 14, 56], [71, 63, 59, 43, 56], [73, 65, 15, 58, 57], [77, 62, 61, 44, 56], [82, 64, 16, 60, 57], [93, 64, 45, 63, 60], [94, 65, 46, 58, 62], [107, 17, 62, 65, 61], [108, 18, 63, 59, 64], [76, 71, 68, 67, 56], [78, 72, 70, 47, 66], [81, 73, 69, 57, 66], [83, 74, 19, 70, 68], [84, 75, 20, 67, 69], [91, 73, 72, 58, 66], [96, 75, 48, 71, 67], [105, 74, 59, 71, 68], [111, 21, 75, 73, 69], [112, 22, 72, 74, 70], [90, 81, 78, 77, 66], [92, 82, 80, 60, 76], [95, 84, 79, 67, 76], [97, 88, 49, 80, 78], [98, 89, 50, 77, 79], [104, 83, 82, 68, 76], [106, 86, 61, 77, 81], [109, 85, 69, 84, 81], [110, 87, 70, 78, 83], [113, 23, 87, 86, 83], [114, 24, 89, 82, 85], [115, 25, 88, 84, 85], [116, 26, 79, 89, 87], [117, 27, 80, 86, 88], [104, 95, 92, 91, 76], [105, 96, 94, 71, 90], [106, 98, 93, 77, 90], [107, 102, 62, 94, 92], [108, 103, 63, 91, 93], [110, 97, 96, 78, 90], [112, 100, 72, 91, 95], [116, 99, 79, 98, 95], [117, 101, 80, 92, 97], [127, 51, 101, 100, 97], [128, 52, 103, 96, 99], [129, 53, 102, 98, 99], [130, 54, 93, 103, 101], [131, 55, 94, 100, 102], [109, 106, 105, 81, 90], [111, 108, 73, 91, 104], [114, 107, 82, 92, 104], [121, 64, 93, 108, 106], [122, 65, 94, 105, 107], [113, 111, 83, 110, 104], [115, 112, 84, 95, 109], [119, 74, 112, 105, 109], [124, 75, 96, 111, 110], [118, 85, 115, 114, 109], [120, 86, 117, 106, 113], [123, 87, 116, 110, 113], [125, 88, 97, 117, 115], [126, 89, 98, 114, 116], [28, 123, 120, 119, 113], [29, 124, 122, 111, 118], [30, 126, 121, 114, 118], [31, 130, 107, 122, 120], [32, 131, 108, 119, 121], [33, 125, 124, 115, 118], [34, 128, 112, 119, 123], [35, 127, 116, 126, 123], [36, 129, 117, 120, 125], [37, 99, 129, 128, 125], [38, 100, 131, 124, 127], [39, 101, 130, 126, 127], [40, 102, 121, 131, 129], [41, 103, 122, 128, 130]]
 | _ => []
def farT : Nat → List Nat
 | 3 => [0]
 | 4 => [16, 1]
 | 5 => [139536, 74241, 135201, 65826, 4626]
 | 6 => [14411514225238288, 9924411819893249, 14113542296965153, 9327372745638178, 5121745315959314, 14691820684653089, 9905651116552978, 14392680256909874, 14094777316483378, 9588849800065843, 5101816113148963, 9290946859704899, 4523537725526579, 317910026363683]
 | 7 => [99771845108456305536551759393272985118497433592080, 76473477379814668075660716595157439949116343919105, 98224686401352136174848289807393531563954296459297, 73373473270136103419198063778830410365090302853410, 51536605785050061615011666236998380474827126346258, 101227279457102708635979877405637471793296227643937, 76376066238795657596501634556887971809403266544402, 99674053548084713792265446798113994343467317473842, 98127253046700212772228861171395317677337551774002, 74731115970958263743709891367984326778192417469235, 51433105054239802772789111856877388584526605857827, 73184315469573845800423042303231226004378171417155, 48430511998829512677390059631919491137154331054643, 26593644508298952982181284101938835968306571191075, 99869256156917094714900266888869986554075261645345, 76479543182145700913457547442727281655443082064658, 98316387059801008713223542193836449434111753527602, 73373449482674558664667986763411633981318406214195, 51536583391385091769913186167790225533074527036195, 101325047317144974440251131660278493273418872668978, 101318980028460562890527131110524496225408960971570, 76473453592351705824082977704369505595368206976035, 76376042451334112841971246852570740577154822784035, 99771821315548819875789682884295606030794103276355, 98224662608444655706388023588677331064779090178627, 101227255664195311244269367167257896523636232508483, 99674029760963451059855364407489584010325033042755, 98127229259238667672897820898935330197683735638595, 74828860038434744097419380706350747737831107740740, 51530492315237629699560210573993069419717101569332, 73281701331330579928017721415455992177289858397012, 48430488205560482540144890810229781799659677885252, 26593622114271015644117486569739319088275732444212, 76284294387081235465899064989313038512148213749060, 51433081174220036717448479722194309186582616495412, 74731068483849375281485062234267096986405815276628, 73184267982124591894527518725713996095269124784980, 49788154693844187619186795409784965012319712330820, 26490143777125726646993412253790525811440393340212, 48241354192459769675899946269472847591086536012628, 23487550721715436552782763123732254614805837718340, 1650683231184876856306336917965506318547051230260]
 | 8 => [292898033498906014505894434094139443936829239472780874231324922669701316524188027425874776950840459948604262088773490792692264495323317539739139143606069240080, 238180824779067456806774592729300864087997091490748338019243383566349748618753028192170360288683290154244753142338403256353674464432064781173119373956563935745, 289264465392962564033818340862115110375351009827384018853946626108572285573187758634016167968378675881112191368490310198945011505695133438404999304050733355041, 230900333120713463191768634810277249050825793498405445339900454866249518156405217562740388267885922999769859563797218888861954288887751783606957135836528836898, 179615519957599550427814166034667640309638207987026584183756028293832320458351688475418900887458957415668808601451473130751314171252942972544691465402461458962, 296316183043133789706032418899693608457647214460944146403008796372190567181660259681850534031948235953180310629926502658532813801853947840241105941034019533345, 237952050566347723847278126743111656162538918969164367306443667493836883452627584370160217572497778944530987836381097245658692041564726983024775120786482672402, 292668365855137433192495675910557537818012579359225977119492671205457460245148389551150633087549587214009725589319834806205895357017692415977743592942514483762, 289035639010580016967229883765663473893428538131537645710132426611791974464576069938667737782304246755529937121189820192773118355201594924094213386639394414898, 234088814815786382156613402143616193571481833112435121746368749427487770499367986196126072275238052553785546859351854349234855201485126435727729016673801548595, 179372444083943445866823523321036466054255223710111329700315906670545126769523477145162290043773368182711259353159823560467902140578045787558375908047950328867, 230456087971229161040632004936780837882188229267271947872548196790022311333963005785778490719581450409123263428167464248732028406712650558006289764703492317763, 172320726434571387823490339305785212554845504404953224914896058747327777872677023230898184528301016365335519896353012514713287822662029505622632627047468503603, 121035913258670792946830332122834022133962440838726669794096654443858417271826883588486132578091293158122465597182275663729726622091066781049711768416300376867, 293126807494248823354633207494062061194163782809172907077517303554061550849214740458521286967173788066967517853958740754042325153046201626693896882893315322401, 238195070574140576205778311716062490979692812757368846528327397984319066623164768068513485432975855491860811246814640067200247710261024529096181392280095175442, 289479828294198140276610131993959103702995594539484226513203948153311361993873630662750530008002413115316273403187690454068415458469791481783382376746201588018, 230900277254847089240727858226324592074412033244569736815392457149780941210670172345008349889486834959866991999699295750253546865828790112727164629386589770291, 179615467365123784372915262303118446940538646590228189149872582850069856353178772747638124127714928307062299587575256048844613569508260798223689339276347122467, 296545795025669723285846290513472017063208707958224928763658546530168113041259157960528238034436796350315043100491444828608794293062096494006613978558079714098, 296531545739832400932119669365304458066622638781294798216463455463524736839859148767906769235801472170034452376845790428323055474832130602632680505004094931762, 238180768913197753803556428880357402313883898497994547306828617027349395929222429815047956001840731133221428598131909326669637556956645534386647567296544064547, 237951994700481349896236623332218549779248072544729031059869984641905522213758018993413622339653951252900689453796577816767428575306501464660194969516354257955, 292897977620249616433297887309609182901070691768814159681920102538642288501340129151946609986711912274576893488516946551128971571996902046215738285417559311171, 289264409514306178155563698169015525198957265325600510483366620204680248058313627072228938271044275433568119672035718589026228005256270631419012451266726212163, 296316127164477598937062216560982321215491307236110131831688293716237102343224613778120844854047222385510239965272668885502457829567577770082067642741032309827, 292668309990070226060556093974618377279757921227704224706634978885317344913583748528438976928014916718226811205972496576574071029818379592660257112864711852867, 289035583144713642206409362391067479073339994777189533732382577356123836305088326229843295212670645683952885612939983377062486051882661311945462508690095747651, 234318370920468414345073579857639808453068471586884837021020567183249473406194004160211001355002483009900087577799367710178344392700379139453400313850411369540, 179601162213416550902378317344384904691833311672754440631756244698860570448894222929798244287130756461680885076243493849265692765220482833827953947508501333300, 230684802814524976067339390717048858436203210001970071548893168411112801798297555028716081185662519059800723657509433141472941847919714864117242301734387462996, 172320670555065886339548974435991376570063787993112003528348152339532460010036654711472349694961606198960423340807100124312814283037748519375757812632919417668, 121035860665342581471736375496120604232743203685356680627871379312471686061259988857231332731510556726931446728981698181531472334257689556335363202754240721972, 237736520464696396848837909109012946767489087054180809170788758360844287248078488786385236222443105412526511169906862293969234635024354905658178889858109756740, 179372388000700146995058511796246052157207572796608918495183511072604127624140656849725399122898211956120462532240526265399854516075973970907028397068618323252, 234088703290289023972331786522649002831755740457438305540580658042046174176049184332921885680791622832672486773989767509004177299281132694962964219995492799572, 230455976444932440118185054939100812310585979019099008316095893165996803135403877431904900974821385969413907613590765033384737456196085934943229744527842820948, 175509208116005179255434518341499143149131232686853188170280151763848521370154784904933521926299395304317600860180939330252779174960816682963123061622117254212, 120792837384162242965644636502211465464487418331033850479310571061331596517536029472949226936771873578620395406592391272649356981664581287563680093911198680372, 171876481271447958139453120957210219350857312970410199466200505700479377500433386861689540082133736832504947028962421251565335214811162002506019583896620118868, 113741119734790184922311452486957335049501523863973107496000153646144883692891175724615614565100394925528945786918273984206870526035016270894001376342140199748, 62456306558889590045651445304006144628618460297746551801826061161021371095586992478440022343312283031957806150680772386664400741941410182200734053261423817780, 292898089364772388456935207827048288053957548096536774237374012286848904963719865381463511313281107071314021757137536813791937165638966550260341358451316961825, 238180877371543222858696365034305205553836217580752925409515168686830714187238085887240641243741367057106277116092189585356392837031190980993170807202478437138, 289264521258828937981881983002858288245057137121012143928742440691995636463351638088420104962768421440523978834429505735686509055160479161383082863331315491122, 230900333134352589911713871451328784470246894478799005008757999019410342251674689960499059340785147732966395797063761348415437318320552875904221912273986392627, 179615519958451995038042628119345756786749220094547953905308383980169533472591287189657622057130455577139735855158280444685642063510028723929194209627573658403, 296316238908200996028006182303075082505228860107949936567035109390763199594257458388954787263703934114931773515157759629903252131687035190063597317986893185842, 237952050783724647955046283212219320087348829042147009801196510800030065526416003416958094042570586949611002784105171435928748038985387623850749765882795476003, 292668421515567583431882357950795924430526441369060875521260387069949851762400219147135447491043611743253388234203614660539049517293782097740862140898299167555, 289035694671010362315900960743957861055984672665598817921022499873558155809570264347833841628704439909618127428813244893075125193439535603201643622589437063747, 234088814815786381343658050498826549982524221187131552860360851714557036667254094155399838859327574749338589355473030971452341207190434640083280052880487498820, 179372444083943445056856932510550357999236431282843235459718915282045889612144402954910843633429198160282337895492948365507120439073878078355820122189067404596, 230456087971229160227676653291991194293230617341968378986549048079990709549554192304320984543315664430473408144763415855090201644419646158280277448482353328980, 172320726434571387010732733221424242515547967888133186262525078578461948002879153485009721699581190363140589014200766201448401425170810798320902532428895298372, 121035913258670792137049857630638718342087085652034405501975240921071157240028805806344826698557657077794640626033735745334201498867222078703268450505244947508, 293126863372905208419944900239889142818232925544338100779522037347616022429637978832093898909302799695656816039778411853532947513764659397829032754532530275122, 293127701347261703112120638386476648431527873347218353814282713992100603856707116657644030525252292164805530072317556543754556604672440518345375295764868383538, 238195126440007157409822520820178739999003420084608614085009228266963451590421455074512448838512797575131598642953837592396127091952998369560911296428970820643, 238195074064904986461138022194344623937602259222946866561903127504119094174331235164291788570809597499602887447671414482612079478583337506657672071998169367587, 289479884172854330232625797554018367060959638489328419603888244223947516840511715171561941650922355255140697015028375616701211183382902236541609190568122135107, 289479883954628290515996814033504322933456641501195490590284094792243022473702403443768229746270106336441811120519470097737136398005871700447236563046760723011, 230900333120713462378813280326273838682143005990313879675090130084507959379640128943049363948905033718888721005057190426335595922684609428967792093701959000900, 179615519957599549614870443809466726430919256300256494039203857612561748325836766935635471785316864628253828944534839215651440621438081390205059199926814258228, 230900277254847088427772506581534948485454421319266167929384559436850207378556278335788219028661215259819163545382954074593956058256222739284607497083037098820, 179615467365123783562948671492632338885519854162960094909275591461570619195799696588892780272455616389032507179470862556006755054726217511223025384907225576500, 296545850904326120545488257920006873821713078726416968936922851587190192055318260859291507748460921666867492738947203164209565040718580433458172714923433743427, 296531601618488590888135292326020341072840367274299914675901340692222345069536484550156957344795692967717458235093253899174121891497752309399711981876162155587, 296774624899668929394227031319929491079047622226983871031920044267718641315549290932177725662821720594568909251149825337530303294292809062357352294568220251203, 296760375612978955078825384687537144410879976188846483264280493362906198679557991105545719397750823258273058310910299191539085605408138318399677779937231983683, 296531601400262551171505579139398280638292680801354784834761622284367611960303887488417859525295808665932669976942711002534512912333326311687162987256043885635, 238180824779067455993819241084465020619481907296228193334805686154047059128860192922207198762688275284538186022316132884634808620895205893196347249774771328308, 237952050566347723034322775098275812694023734775285374747103226552780614772362321804437422399236393828123128377792640573330121739569690587983330584438857028916, 238195070574140575392822960071226647511177628727023571092694512368184592068476249838790031805008311431492404875362209678244343700737465556596638852809449821492, 238180768913197752990601077235567769962877756006917160603380958007511210748109289480358751436599954578308056888535698885250701806816450745439252383605838861620, 237951994700481349083281271687428906190290460619425462173862086928972624028855185863230891564144939985967668554476766843912947681353908436681969620721178268980, 292898033498906013692939079432638804034539475290676873122150056672956816925611661524834390576907611976478909908509487823904517237375335654403839365837673092180, 289264465392962563220862986200614639703389255948923697977673424510267038836989689163812336828535921022171217982787391110261657024226497688781105672331325686612, 296316183043133788893077064238192968555357450278880070517741085540352781359933396206042339279913486121089187145053224171625595871458219572036384446257972012372, 292668365855137432379540321249057067146050828097946282347637611277668821537747430476203997653751134040118695755308210001294135982461265614238071322263969748052, 289035639010580016154274529281613863645198937729362372018777538283869440206656138339060906792382911187755771270575574739983950608419692950873565345691807859540, 293126807494248822541677852832561421291874018791243775217147249353485266185842691597720608491268410904180326422179322019123557177123838209531166931349876921428, 289479828294198139463654777332458633031033843287824162160390509126958035810921796059625664710002358760148613071782284301399872331243449716353646890276793697108, 296545795025669722472890935851974264653400748524433804749073677439269574263156105341657048415285381466350614229966206400772508581892218055640016695471177622868, 296531545739832400119164314703806695079909091780320183565513691376601575596787861440439237816249832603260685920014619458013715052577714077861734813767178806612, 292897977620249615620342535675910229329130058748051268440010427852129661786708001613716125000398552792158009362258354357228462323150909099734700647179914466388, 289264409514306177342608346524225892847951122834522967210562757109453852788400432989061421006537466421646030131651180441659036628517235438492077865911740351316, 296316127164477598124106864927283366982494705271184554933197376573988435409001811849516402127438126457599572999266144382605943404604537095022107923565008807252, 292668309990070225247600742329828733690800309302400499251270879232983280020646604457562019589278827458335557353840772076931644019447026205624071399680886854740, 289035583144713641393454010746277835484382382851885808277018477703789763454971811052019799704929013469140233553357896854096449449336671149204654356480345326420, 234318426799124810791760192613810915247173627396120980100995004999001727521728654655475570233224659942240173950541739505386317639951494283381861913426348299605, 179601218079286253092640354265637131832116059401672143744145116224547789434281402042233699086069604207969472662875530203424423087975011572451750358866279552581, 230684858693181360319684099381786750916023408054367804956518372836311949433106684154364067188932664794789671334193920865733086716610205096883141734971952415845, 172320726420932259477634393507445949894777158095757830084429560155006516848758763405779457734613980041276130974392484018867760033313584450886354777344831665237, 121035913257818346713691556990638837643553408405700443875019866452088316410071944138794230043349660590320320007598821330585058012910615567054143281773477578053, 237736576343352585991898177419365079767991602384324177496586033866397691956050389336683518936335846378543528302437248102524800258787678243352856212530872608341, 179372443866566520133143888279447923906657886880729325156442656623281345077783530924463922724408033316883983875401662316403066342250737483034958224153811183173, 234088759155356229478361434430229178358684980203390389326482559603713732133864425466755610686250291337796869120657234257782972705341284773454343897474065130853, 230456032310798813253095642462785974857833089834806478997622486609914350802773133329612637154569963925042850955428111927979494919507601759875663951267209040997, 175509208116005178442479163679998661195158373292575503269700281785055594136372726641975097186542998332415538922211820928207831346542303810643825277618551608661, 120792837384162242155678045691722469211870583388287185868909578119090335599084802007406465232008486241939361199031900691794921334630233111609356483816958744133, 171876481271447957326497766473163305505864769447412329395888478150489267018665206597761024033713884991720279725819064763581878290929704438902336289683342181477, 113741119734790184109553846402596353728182119993577136671855178657033521160868241293556865694859405494999686228473219235173491642998742406536411335182092874837, 62456306558889589235870970811810829554721237757478355908925612202735114065226937989297343601477503338929416574185793137848509747753752209467826020093867017541, 234547200794467619640498966013733532504508170896687882195992197679530176781959684728361788147585458869941590464302917552938539012087727140553957449142024623445, 179615463874359372491644073252398758723811780832467521502033942438685322373897458958816532128389640354923691515927695100473157048217320090592150173618241033797, 230900221594416936562475890513630744243667995393268269139235457453002946407038791050177395070399102532767066423280514808239945877745398644616717303037294888037, 172320670555065885526593619762707059698088573424710118338723989507348764847674912798518312814370161582206573539661185156778651885031340681883132913941903324245, 121035860665342580661769784673804450098154006268404045318466254298615065182740097617573273729629659643169279201874993401120198092630044181164922132653341361477, 237966188325888519571712049033146375866034900629877911727918625765314484859273098472298228071602429432111878273551660383862837472962615049560280021229182019157, 237951939040051197217985427884978806292543243885764290544358639702646486192904854571080417472672192860715027077490344053190545010197726281404168543085940602453, 179601162213416550089422190416739881175511908112361111012720388078011941053530498600385251761771594067042859986892938007384086226181775825057012449365334517317, 179372388000700146182102384868601017402924612724869412583201516999473354334276394983257391889316579474728524077028726076638424000180788772421253036632399242821, 234318370920468412719163648857082340541764210853495375418855376178174572382824996604267738031212713416860633534456081008077238096959927472429410345351338419557, 230684802814524974441429459705398004060585274939967074189407705435498763384517427979613151368724519158907057417251935008715020411488768654991733035497135952997, 237736520464696395222927978108455478195128857376628661912042324900033346005118806832831009582605021535027452104817724617044077438647417244947874911208302147173, 234088703290289022346421855511000844903434461407844606230115827559028190616763599448113743049719533405034329700226530255820533698336737560920794930938846340453, 230455976444932438492275123927449946697016534957329915255863426029834674051088806042571530067116066206427313263153371531744525131769759621825832876217466246245, 175738764220687211443894693038811919665702623692328787430359997253748030875312636646786259680420578529234241726092945183006167108906311948230489041588752569685, 121021555513635348001199430525557015904467463778198391040946907535905016435834621982293865883912716379161485195150341470253195467580841208045717623308417259077, 172105196114743773166160503898220969648837362107414021958232598481611359267408569322156120674263411557304799820119869566036951071283836782955844645935653405797, 113741063855284683438370087617163487782697940098555953937687001412659465856657177519572410634179091283484709685360520346759733073552263135211560376645804373077, 62456253965561378570557488677292715445377355790800631037061495202814257351958683171063437275157711544847951527272217994481555168998150603728486658390154757445, 179156913764915193947659022290185057980123239159624759580128188431342844717197121272960487646114854141272357954790723268037871347686910597110812629117289522773, 120792781300918944093879624977418163369841724902052868904374173909127092401139427464136291694741075999693362829761021189625237898031336361133737884587793933893, 175509096590507821071152899703821114044389892562882255949920088112544731645167312885086003879983847575910165671316660732681846886181686264404552220332702197093, 171876369745151237217006168120272923523220131124542958725435323236495360573431715165333992407549707953203708432502966159293984395577661965972699016420708996197, 116929601416223976354255631522671254361765384792297138579619545380170504763637984432990113801886437189783909578098402457793258451030319670429938307995269420373, 62213230684381040064465749683383576677121570436477800888500684815687139347180301796830913075667153210761664553775833814499173835712840769257606824153277814341, 113296874571666755238274234138382330563491465075854149875539933492593927671427509316496412165319586482140455404158427095193201685763208433101143629011304662117, 55161513035008982021132565668129446262135675969417057905199016403399550613061155500819489774634823428545918947126129486873765019910326372801742315130468971605, 3876699859108387144472558485178255841252612403190502211016174915376905968051893695375170313202019709177677090413852905190608003815032888190038344477577528645]
 | _ => []
/-- What the flips of one bring in: what is new gets its distance and goes behind the queue. -/
def bIn (u : Int) : List Nat → List Int → List Nat → List Int × List Nat
 | [], far, Q => (far, Q)
 | i :: r, far, Q => if far.getD i 0 < 0 then bIn u r (far.set i (u + 1)) (Q ++ [i]) else bIn u r far Q
def bLoop (adj : List (List Nat)) : Nat → List Int → List Nat → List Int
 | 0, far, _ => far
 | _ + 1, far, [] => far
 | m + 1, far, q :: Q => bLoop adj m (bIn (far.getD q 0) (adj.getD q []) far (q :: Q)).1 ((bIn (far.getD q 0) (adj.getD q []) far (q :: Q)).2.drop 1)
/-- The distances of all from one. -/
def farOf (n s : Nat) : List Int := bLoop (adjT n) ((adjT n).length + 1) ((List.replicate (adjT n).length (-1 : Int)).set s 0) [s]
def dec (row i : Nat) : Nat := row / 16 ^ i % 16
def farRow (n s : Nat) : List Int := (List.range (adjT n).length).map fun i => ((dec ((farT n).getD s 0) i : Nat) : Int)
def chkRow (n : Nat) (x : List DG) (js : List Nat) : Bool := decide (x.length = js.length) && ((x.zip js).all fun p => decide (p.2 < (triT n).length) && (match spec_flMake.f 20100 (n : Int) x p.1.f0 p.1.f1 with | some y => eqL y ((triT n).getD p.2 []) | none => false))
def chkAdj (n a b : Nat) : Bool := (List.range' a b).all fun i => chkRow n ((triT n).getD i []) ((adjT n).getD i [])
def chkFar (n a b : Nat) : Bool := (List.range' a b).all fun s => decide (farOf n s = farRow n s)
def chkSym (n : Nat) : Bool := (List.range (adjT n).length).all fun s => (List.range (adjT n).length).all fun i => decide (dec ((farT n).getD s 0) i = dec ((farT n).getD i 0) s)
end Go.Proofs.YtgblginphicacaaGreatDoor.PureFnExactCountByFlips
