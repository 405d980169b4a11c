/- The program's RankOfTriangulation and the reference's return the same for every number of corners and every list of pairs of numbers that the statement lets in: both look for the triangulation in the list of all, in which every triangulation stands. No condition. -/
import Derived.Test.YtkipgbakoljaeaaPFnExactRankOfTriangulationx0
import Derived.Test.YtkipgbakoljaeaaPFnExactRankOfTriangulationx1
import Derived.Test.YtkipgbakoljaeaaPFnExactRankOfTriangulationx10
import Derived.Test.YtkipgbakoljaeaaPFnExactRankOfTriangulationx11
import Derived.Test.YtkipgbakoljaeaaPFnExactRankOfTriangulationx2
import Derived.Test.YtkipgbakoljaeaaPFnExactRankOfTriangulationx3
import Derived.Test.YtkipgbakoljaeaaPFnExactRankOfTriangulationx4
import Derived.Test.YtkipgbakoljaeaaPFnExactRankOfTriangulationx5
import Derived.Test.YtkipgbakoljaeaaPFnExactRankOfTriangulationx6
import Derived.Test.YtkipgbakoljaeaaPFnExactRankOfTriangulationx7
import Derived.Test.YtkipgbakoljaeaaPFnExactRankOfTriangulationx8
import Derived.Test.YtkipgbakoljaeaaPFnExactRankOfTriangulationx9
set_option linter.unusedSimpArgs false
set_option linter.unnecessarySimpa false
set_option linter.unusedVariables false
namespace Go.Proofs.Ytkipgbakoljaeaa.PureFnExactRankOfTriangulation
open Go.RowKit Go.Proofs.Ytkipgbakoljaeaa.PFnExactRankOfTriangulation Go.Proofs.YtkipgbakoljaeaaW.PrintWords Go.Proofs.YtkipgbakoljaeaaW.PrintLast

theorem Ev.at1 {α : Type} {g : Nat → Option α} {r : α} (h : Ev g r) : ∃ K, ∀ j, g (K + j) = some r := by
 obtain ⟨K, h⟩ := h
 exact ⟨K, fun j => h _ (by omega)⟩
theorem Ev.at2 {α β : Type} {g : Nat → Option α} {r : α} {g2 : Nat → Option β} {r2 : β} (h : Ev g r) (h2 : Ev g2 r2) : ∃ K, (∀ j, g (K + j) = some r) ∧ ∀ j, g2 (K + j) = some r2 := by
 obtain ⟨K, h⟩ := h
 obtain ⟨K2, h2⟩ := h2
 exact ⟨K + K2, fun j => h _ (by omega), fun j => h2 _ (by omega)⟩
theorem Ev.at3 {α β γ : Type} {g : Nat → Option α} {r : α} {g2 : Nat → Option β} {r2 : β} {g3 : Nat → Option γ} {r3 : γ} (h : Ev g r) (h2 : Ev g2 r2) (h3 : Ev g3 r3) :
  ∃ K, (∀ j, g (K + j) = some r) ∧ (∀ j, g2 (K + j) = some r2) ∧ ∀ j, g3 (K + j) = some r3 := by
 obtain ⟨K, h⟩ := h
 obtain ⟨K2, h2⟩ := h2
 obtain ⟨K3, h3⟩ := h3
 exact ⟨K + K2 + K3, fun j => h _ (by omega), fun j => h2 _ (by omega), fun j => h3 _ (by omega)⟩
theorem Ev.at4 {α β γ δ : Type} {g : Nat → Option α} {r : α} {g2 : Nat → Option β} {r2 : β} {g3 : Nat → Option γ} {r3 : γ} {g4 : Nat → Option δ} {r4 : δ} (h : Ev g r) (h2 : Ev g2 r2) (h3 : Ev g3 r3) (h4 : Ev g4 r4) :
  ∃ K, (∀ j, g (K + j) = some r) ∧ (∀ j, g2 (K + j) = some r2) ∧ (∀ j, g3 (K + j) = some r3) ∧ ∀ j, g4 (K + j) = some r4 := by
 obtain ⟨K, e1, e2, e3⟩ := Ev.at3 h h2 h3
 obtain ⟨K4, h4⟩ := h4
 exact ⟨K + K4, fun j => by rw [Nat.add_assoc]; exact e1 _, fun j => by rw [Nat.add_assoc]; exact e2 _, fun j => by rw [Nat.add_assoc]; exact e3 _, fun j => h4 _ (by omega)⟩
theorem Ev.all {α β : Type} {g : α → Nat → Option β} {r : α → β} (l : List α) (h : ∀ x, x ∈ l → Ev (g x) (r x)) : ∃ K, ∀ x, x ∈ l → ∀ k, K ≤ k → g x k = some (r x) := by
 induction l with
 | nil => exact ⟨0, fun x hx => by cases hx⟩
 | cons y l ih =>
  obtain ⟨K, hK⟩ := ih (fun x hx => h x (List.mem_cons_of_mem _ hx))
  obtain ⟨K2, hK2⟩ := h y (List.mem_cons_self ..)
  refine ⟨K + K2, fun x hx k hk => ?_⟩
  rcases List.mem_cons.1 hx with e | e
  ·subst e
   exact hK2 k (by omega)
  ·exact hK x e k (by omega)

theorem take_set_succ {α : Type} (l : List α) (i : Nat) (v : α) (h : i < l.length) : (l.set i v).take (i + 1) = l.take i ++ [v] := by
 rw [List.take_succ_eq_append_getElem (by rw [List.length_set]; exact h), List.getElem_set_self, List.take_set_of_le (Nat.le_refl i)]
theorem getD_drop {α : Type} (l : List α) (d : α) (i : Nat) (h : i < l.length) : l.drop i = l.getD i d :: l.drop (i + 1) := by
 rw [List.drop_eq_getElem_cons h, List.getD_eq_getElem?_getD, List.getElem?_eq_getElem h]
 rfl
theorem wrap_succ (i : Nat) (h : i < 4611686018427387904) : wrap64 ((i : Int) + 1) = ((i + 1 : Nat) : Int) := by unfold wrap64; omega
theorem wrap_pred (i : Nat) (h0 : 0 < i) (h : i < 4611686018427387904) : wrap64 ((i : Int) - 1) = ((i - 1 : Nat) : Int) := by unfold wrap64; omega

theorem l1In_tells (a b c : Int) : spec_l1In.f a b c = some (decide (b ≤ a ∧ a ≤ c)) := by
 unfold spec_l1In.f
 by_cases h : a ≥ b
 ·rw [if_pos h]
  have : b ≤ a := h
  simp [this]
 ·rw [if_neg h]
  have : ¬ b ≤ a := h
  simp [this]

theorem within_tells (a b c : Int) : impl_within.f a b c = some (decide (b ≤ a ∧ a ≤ c)) := by
 unfold impl_within.f
 by_cases h : a ≥ b
 ·rw [if_pos h]
  have : b ≤ a := h
  simp [this]
 ·rw [if_neg h]
  have : ¬ b ≤ a := h
  simp [this]

abbrev DG := S36
abbrev rD (l : List DG) (j : Nat) : DG := rd_T36 l (j : Int)
def crossB (a b c d : Int) : Bool := decide (a < c ∧ c < b ∧ b < d) || decide (c < a ∧ a < d ∧ d < b)
def diagB (n a b : Int) : Bool := decide (0 ≤ a ∧ b ≤ n - 1 ∧ b - a ≥ 2 ∧ b - a ≤ n - 2)
def lessB (a b c d : Int) : Bool := decide (a < c ∨ (a = c ∧ b < d))
def stepD (n : Int) (l : List DG) (j : Nat) : Bool :=
 diagB n (rD l j).f0 (rD l j).f1 && ((j == 0 || lessB (rD l (j - 1)).f0 (rD l (j - 1)).f1 (rD l j).f0 (rD l j).f1) && !(l.take j).any fun e => crossB (rD l j).f0 (rD l j).f1 e.f0 e.f1)
theorem stepD_def (n : Int) (l : List DG) (j : Nat) : stepD n l j = (diagB n (rD l j).f0 (rD l j).f1 && ((j == 0 || lessB (rD l (j - 1)).f0 (rD l (j - 1)).f1 (rD l j).f0 (rD l j).f1) && !(l.take j).any fun e => crossB (rD l j).f0 (rD l j).f1 e.f0 e.f1)) := rfl
def goodD (n : Int) (l : List DG) : Bool := (List.range' 0 l.length).all (stepD n l)

theorem rD_drop (l : List DG) (i : Nat) (h : i < l.length) : l.drop i = rD l i :: l.drop (i + 1) := by
 rw [getD_drop l z36 i h]
 unfold rD rd_T36
 rw [Int.toNat_natCast]
theorem any_take_step (p : DG → Bool) (l : List DG) (i : Nat) (h : i < l.length) : (l.drop i).any p = (p (rD l i) || (l.drop (i + 1)).any p) := by
 rw [rD_drop l i h, List.any_cons]

theorem poCross_tells (a b c d : Int) : spec_poCross.f a b c d = some (crossB a b c d) := by
 unfold spec_poCross.f crossB
 repeat' split
 all_goals congr 1; rw [Bool.eq_iff_iff]; simp only [Bool.or_eq_true, decide_eq_true_eq, Bool.false_eq_true, false_iff, true_iff]; omega
theorem poLess_tells (a b c d : Int) : spec_poLess.f a b c d = some (lessB a b c d) := by
 unfold spec_poLess.f lessB
 repeat' split
 all_goals congr 1; rw [Bool.eq_iff_iff]; simp only [decide_eq_true_eq, Bool.false_eq_true, false_iff, true_iff]; omega
theorem poIs_tells (n : Int) : spec_poIs.f n = some (decide (3 ≤ n ∧ n ≤ 12)) := by
 unfold spec_poIs.f
 rw [l1In_tells]
 rfl
theorem poDiagonal_tells (n a b : Int) (h : 3 ≤ n ∧ n ≤ 12) : spec_poDiagonal.f n a b = some (diagB n a b) := by
 unfold spec_poDiagonal.f diagB
 rw [poIs_tells, l1In_tells, l1In_tells, decide_eq_true h]
 have w : wrap64 (n - 1) = n - 1 := by unfold wrap64; omega
 have w2 : wrap64 (n - 2) = n - 2 := by unfold wrap64; omega
 simp only [Option.bind_some, if_true, w, w2, decide_eq_true_eq]
 by_cases h0 : 0 ≤ a ∧ a ≤ n - 1
 ·by_cases h1 : 0 ≤ b ∧ b ≤ n - 1
  ·have w3 : wrap64 (b - a) = b - a := by unfold wrap64; omega
   rw [if_pos h0, if_pos h1, w3]
   split
   all_goals congr 1; rw [Bool.eq_iff_iff]; simp only [decide_eq_true_eq, Bool.false_eq_true, false_iff]; omega
  ·rw [if_pos h0, if_neg h1]
   congr 1; rw [Bool.eq_iff_iff]; simp only [decide_eq_true_eq, Bool.false_eq_true, false_iff]; omega
 ·rw [if_neg h0]
  congr 1; rw [Bool.eq_iff_iff]; simp only [decide_eq_true_eq, Bool.false_eq_true, false_iff]; omega

theorem spec_poGood_inner (n : Int) (l y x19 : List DG) (x20 x21 c d : Int) (hy : y.length ≤ 4611686018427387904) (e : Nat) : ∀ (m k : Nat), m + e = y.length → e < k →
  spec_poGood.l1 k n l x19 x20 x21 y (y.length : Int) (m : Int) c d = if (y.drop m).any (fun z => crossB c d z.f0 z.f1) = true then some false else spec_poGood.l0 (k - e - 1) n l x19 x20 (wrap64 (x21 + 1)) := by
 induction e with
 | zero =>
  intro m k hm hk
  obtain ⟨k, rfl⟩ : ∃ q, k = q + 1 := ⟨k - 1, by omega⟩
  simp only [spec_poGood.l1]
  rw [if_neg (by omega), List.drop_of_length_le (by omega)]
  simp
 | succ e ih =>
  intro m k hm hk
  obtain ⟨k, rfl⟩ : ∃ q, k = q + 1 := ⟨k - 1, by omega⟩
  simp only [spec_poGood.l1]
  rw [if_pos (by omega), if_pos (by omega), if_pos (by omega), poCross_tells, Option.bind_some, wrap_succ m (by omega), ih (m + 1) k (by omega) (by omega), any_take_step _ y m (by omega)]
  rw [show k + 1 - (e + 1) - 1 = k - e - 1 by omega]
  cases crossB c d (rD y m).f0 (rD y m).f1 <;> simp
theorem spec_poGood_rounds (n : Int) (hn : 3 ≤ n ∧ n ≤ 12) (l : List DG) (hl : l.length ≤ 4611686018427387904) (d : Nat) : ∀ (i k : Nat), i + d = l.length → d * (l.length + 3) < k →
  spec_poGood.l0 k n l l (l.length : Int) (i : Int) = some ((List.range' i d).all (stepD n l)) := by
 induction d with
 | zero =>
  intro i k hi hk
  obtain ⟨k, rfl⟩ : ∃ q, k = q + 1 := ⟨k - 1, by omega⟩
  simp only [spec_poGood.l0]
  rw [if_neg (by omega)]
  rfl
 | succ d ih =>
  intro i k hi hk
  have hk2 : d * (l.length + 3) + (l.length + 3) < k := by rw [← Nat.succ_mul]; exact hk
  obtain ⟨k, rfl⟩ : ∃ q, k = q + 1 := ⟨k - 1, by omega⟩
  have hj : ∀ b : Bool, spec_poGood.j2 k n l (i : Int) l (l.length : Int) (i : Int) b (rD l i).f0 (rD l i).f1 =
    if b = true then some false else if (l.take i).any (fun z => crossB (rD l i).f0 (rD l i).f1 z.f0 z.f1) = true then some false else some ((List.range' (i + 1) d).all (stepD n l)) := by
   intro b
   obtain ⟨k, rfl⟩ : ∃ q, k = q + 1 := ⟨k - 1, by omega⟩
   have ht : (l.take i).length = i := by rw [List.length_take]; omega
   have h1 := spec_poGood_inner n l (l.take i) l (l.length : Int) (i : Int) (rD l i).f0 (rD l i).f1 (by omega) i 0 k (by omega) (by omega)
   rw [List.drop_zero, wrap_succ i (by omega), ih (i + 1) _ (by omega) (by omega)] at h1
   simp only [spec_poGood.j2, Int.toNat_natCast, Option.bind_some]
   cases b
   ·rw [if_neg (by simp), if_pos (by omega), if_pos (by omega), if_neg (by simp)]
    exact h1
   ·rfl
  simp only [spec_poGood.l0]
  rw [if_pos (by omega), if_pos (by omega), if_pos (by omega), poDiagonal_tells n _ _ hn, Option.bind_some, List.range'_succ, List.all_cons, hj, hj, stepD_def n l i]
  cases diagB n (rD l i).f0 (rD l i).f1 with
  | false => simp
  | true =>
   rw [if_pos rfl]
   by_cases h0 : i = 0
   ·subst h0
    rw [if_neg (by omega)]
    cases (l.take 0).any (fun z => crossB (rD l 0).f0 (rD l 0).f1 z.f0 z.f1) <;> simp
   ·have b0 : (i == 0) = false := by simp [h0]
    rw [if_pos (by omega), wrap_pred i (by omega) (by omega), if_pos (by omega), if_pos (by omega), poLess_tells, Option.bind_some, hj, b0]
    cases lessB (rD l (i - 1)).f0 (rD l (i - 1)).f1 (rD l i).f0 (rD l i).f1 <;> cases (l.take i).any (fun z => crossB (rD l i).f0 (rD l i).f1 z.f0 z.f1) <;> simp

def isTriB (n : Int) (l : List DG) : Bool := decide (3 ≤ n ∧ n ≤ 12) && (decide ((l.length : Int) = n - 3) && goodD n l)
theorem poGood_tells (n : Int) (l : List DG) (hl : l.length ≤ 4611686018427387904) : Ev (fun k => spec_poGood.f k n l) (isTriB n l) := by
 refine ⟨l.length * (l.length + 3) + 2, fun k hk => ?_⟩
 obtain ⟨k, rfl⟩ : ∃ q, k = q + 1 := ⟨k - 1, by omega⟩
 show spec_poGood.f (k + 1) n l = _
 unfold spec_poGood.f isTriB goodD
 rw [poIs_tells, Option.bind_some]
 by_cases hn : 3 ≤ n ∧ n ≤ 12
 ·have w : wrap64 (n - 3) = n - 3 := by unfold wrap64; omega
  have h := spec_poGood_rounds n hn l hl l.length 0 k (by omega) (by omega)
  rw [show ((0 : Nat) : Int) = 0 from rfl] at h
  rw [decide_eq_true hn, if_pos rfl, w]
  simp only [spec_poGood.j0, h]
  by_cases hc : (l.length : Int) = n - 3
  ·rw [decide_eq_true hc, hc]
   simp
  ·rw [decide_eq_false hc]
   simp [hc]
 ·rw [decide_eq_false hn]
  rfl

theorem doCross_tells (a b c d : Int) : impl_doCross.f a b c d = some (crossB a b c d) := by
 unfold impl_doCross.f crossB
 repeat' split
 all_goals congr 1; rw [Bool.eq_iff_iff]; simp only [Bool.or_eq_true, decide_eq_true_eq, Bool.false_eq_true, false_iff, true_iff]; omega
theorem isPolygon_tells (n : Int) : impl_isPolygon.f n = some (decide (3 ≤ n ∧ n ≤ 12)) := by
 unfold impl_isPolygon.f
 rw [within_tells]
 rfl
theorem isDiagonal_tells (n a b : Int) (h : 3 ≤ n ∧ n ≤ 12) : impl_isDiagonal.f n a b = some (diagB n a b) := by
 unfold impl_isDiagonal.f diagB
 rw [within_tells, within_tells]
 have w : wrap64 (n - 1) = n - 1 := by unfold wrap64; omega
 simp only [Option.bind_some, w, decide_eq_true_eq]
 by_cases h0 : 0 ≤ a ∧ a ≤ n - 1
 ·by_cases h1 : 0 ≤ b ∧ b ≤ n - 1
  ·have w3 : wrap64 (b - a) = b - a := by unfold wrap64; omega
   rw [if_pos h0, if_pos h1, w3]
   repeat' split
   all_goals congr 1; rw [Bool.eq_iff_iff]; simp only [decide_eq_true_eq, Bool.false_eq_true, false_iff, Bool.not_eq_true', beq_eq_false_iff_ne, ne_eq, Bool.not_false, true_iff]; omega
  ·rw [if_pos h0, if_neg h1]
   congr 1; rw [Bool.eq_iff_iff]; simp only [decide_eq_true_eq, Bool.false_eq_true, false_iff]; omega
 ·rw [if_neg h0]
  congr 1; rw [Bool.eq_iff_iff]; simp only [decide_eq_true_eq, Bool.false_eq_true, false_iff]; omega
def cmpI (a c : Int) : Int := if a < c then -1 else if a > c then 1 else 0
def cmpD (a b c d : Int) : Int := if a = c then cmpI b d else cmpI a c
theorem compare_tells (a c : Int) : cmp_Compare_int.f a c = some (cmpI a c) := by
 unfold cmp_Compare_int.f cmp_isNaN_int.f cmpI
 have h0 : (a != a) = false := by simp
 have h1 : (c != c) = false := by simp
 rw [h0, h1]
 simp only [Option.bind_some, Bool.false_eq_true, if_false]
 repeat' split
 all_goals rfl
theorem compareDiagonals_tells (a b c d : Int) (k : Nat) (hk : 3 ≤ k) : impl_compareDiagonals.f k a b c d = some (cmpD a b c d) := by
 obtain ⟨k, rfl⟩ : ∃ q, k = q + 3 := ⟨k - 3, by omega⟩
 unfold impl_compareDiagonals.f cmp_Or_int.f
 rw [compare_tells, compare_tells]
 simp only [Option.bind_some, List.length_cons, List.length_nil]
 have r0 : rd [cmpI a c, cmpI b d] 0 = cmpI a c := rfl
 have r1 : rd [cmpI a c, cmpI b d] 1 = cmpI b d := rfl
 have w0 : wrap64 (0 + 1) = 1 := by unfold wrap64; omega
 have w1 : wrap64 (1 + 1) = 2 := by unfold wrap64; omega
 simp only [cmp_Or_int.l0, w0, w1, r0, r1]
 unfold cmpD
 by_cases e : a = c
 ·have z : cmpI a c = 0 := by unfold cmpI; rw [if_neg (by omega), if_neg (by omega)]
  rw [if_pos e, z]
  by_cases z2 : cmpI b d = 0
  ·simp [z2]
  ·simp [z2]
 ·have z : ¬ cmpI a c = 0 := by
   unfold cmpI
   split
   ·omega
   ·split <;> omega
  rw [if_neg e]
  simp [z]
theorem cmpD_nonneg (a b c d : Int) : cmpD a b c d ≥ 0 ↔ lessB a b c d = false := by
 unfold cmpD cmpI lessB
 rw [decide_eq_false_iff_not]
 repeat' split
 all_goals omega

theorem impl_Diagonal_89_s1_rounds (l : List DG) (c d : Int) (hl : l.length ≤ 4611686018427387904) (e : Nat) : ∀ (i k : Nat), i + e = l.length → e < k →
  ∃ r, impl_Diagonal_89_s1.l0 k l (l.length : Int) (i : Int) c d = some r ∧ (r ≥ 0 ↔ (l.drop i).any (fun z => crossB c d z.f0 z.f1) = true) := by
 induction e with
 | zero =>
  intro i k hi hk
  obtain ⟨k, rfl⟩ : ∃ q, k = q + 1 := ⟨k - 1, by omega⟩
  simp only [impl_Diagonal_89_s1.l0]
  rw [if_neg (by omega), List.drop_of_length_le (by omega)]
  exact ⟨-1, rfl, by simp⟩
 | succ e ih =>
  intro i k hi hk
  obtain ⟨k, rfl⟩ : ∃ q, k = q + 1 := ⟨k - 1, by omega⟩
  obtain ⟨r, hr, hr2⟩ := ih (i + 1) k (by omega) (by omega)
  simp only [impl_Diagonal_89_s1.l0, impl_IsTriangulation_1_s2.f]
  rw [if_pos (by omega), if_pos (by omega), if_pos (by omega), doCross_tells, wrap_succ i (by omega), hr, any_take_step _ l i (by omega)]
  simp only [Option.bind_some]
  cases hc : crossB c d (rD l i).f0 (rD l i).f1 with
  | true => exact ⟨i, rfl, by simp⟩
  | false => exact ⟨r, rfl, by rw [Bool.false_or]; exact hr2⟩
theorem impl_Diagonal_84_s0_tells (l : List DG) (c d : Int) (hl : l.length ≤ 4611686018427387904) (k : Nat) (hk : l.length < k) : impl_Diagonal_84_s0.f k l c d = some (l.any fun z => crossB c d z.f0 z.f1) := by
 obtain ⟨r, hr, hr2⟩ := impl_Diagonal_89_s1_rounds l c d hl l.length 0 k (by omega) hk
 unfold impl_Diagonal_84_s0.f impl_Diagonal_89_s1.f
 rw [show ((0 : Nat) : Int) = 0 from rfl] at hr
 rw [hr, Option.bind_some]
 congr 1
 rw [Bool.eq_iff_iff, decide_eq_true_iff, hr2, List.drop_zero]

theorem impl_IsTriangulation_rounds (n : Int) (hn : 3 ≤ n ∧ n ≤ 12) (l : List DG) (hl : l.length ≤ 4611686018427387904) (d : Nat) : ∀ (i k : Nat), i + d = l.length → d + l.length + 3 < k →
  impl_IsTriangulation.l0 k n l l (l.length : Int) (i : Int) = some ((List.range' i d).all (stepD n l)) := by
 induction d with
 | zero =>
  intro i k hi hk
  obtain ⟨k, rfl⟩ : ∃ q, k = q + 1 := ⟨k - 1, by omega⟩
  simp only [impl_IsTriangulation.l0]
  rw [if_neg (by omega)]
  rfl
 | succ d ih =>
  intro i k hi hk
  obtain ⟨k, rfl⟩ : ∃ q, k = q + 1 := ⟨k - 1, by omega⟩
  have ht : (l.take i).length = i := by rw [List.length_take]; omega
  have hc : impl_Diagonal_84_s0.f k (l.take i) (rD l i).f0 (rD l i).f1 = some ((l.take i).any fun z => crossB (rD l i).f0 (rD l i).f1 z.f0 z.f1) := impl_Diagonal_84_s0_tells _ _ _ (by omega) k (by omega)
  simp only [impl_IsTriangulation.l0, Int.toNat_natCast]
  rw [if_pos (by omega), if_pos (by omega), if_pos (by omega), isDiagonal_tells n _ _ hn, Option.bind_some, hc, Option.bind_some, wrap_succ i (by omega), ih (i + 1) k (by omega) (by omega), List.range'_succ, List.all_cons, stepD_def n l i]
  cases diagB n (rD l i).f0 (rD l i).f1 with
  | false => simp
  | true =>
   rw [if_pos rfl]
   by_cases h0 : i = 0
   ·subst h0
    rw [if_neg (by omega), if_pos (by omega)]
    cases (l.take 0).any (fun z => crossB (rD l 0).f0 (rD l 0).f1 z.f0 z.f1) <;> simp
   ·have b0 : (i == 0) = false := by simp [h0]
    rw [if_pos (by omega), wrap_pred i (by omega) (by omega), if_pos (by omega), if_pos (by omega), compareDiagonals_tells _ _ _ _ k (by omega), Option.bind_some, b0]
    have hcm := cmpD_nonneg (rD l (i - 1)).f0 (rD l (i - 1)).f1 (rD l i).f0 (rD l i).f1
    cases hs : lessB (rD l (i - 1)).f0 (rD l (i - 1)).f1 (rD l i).f0 (rD l i).f1 with
    | false => rw [if_pos (hcm.2 hs)]; simp
    | true =>
     rw [if_neg (fun h => by rw [hcm.1 h] at hs; cases hs), if_pos (by omega)]
     cases (l.take i).any (fun z => crossB (rD l i).f0 (rD l i).f1 z.f0 z.f1) <;> simp

theorem isTri_tells (n : Int) (l : List DG) (hl : l.length ≤ 4611686018427387904) : Ev (fun k => impl_IsTriangulation.f k n l) (isTriB n l) := by
 refine ⟨l.length + l.length + 5, fun k hk => ?_⟩
 obtain ⟨k, rfl⟩ : ∃ q, k = q + 1 := ⟨k - 1, by omega⟩
 show impl_IsTriangulation.f (k + 1) n l = _
 unfold impl_IsTriangulation.f isTriB goodD
 rw [isPolygon_tells, Option.bind_some]
 by_cases hn : 3 ≤ n ∧ n ≤ 12
 ·have w : wrap64 (n - 3) = n - 3 := by unfold wrap64; omega
  have h := impl_IsTriangulation_rounds n hn l hl l.length 0 k (by omega) (by omega)
  rw [show ((0 : Nat) : Int) = 0 from rfl] at h
  rw [decide_eq_true hn, if_pos rfl, w]
  simp only [impl_IsTriangulation.j0, h]
  by_cases hc : (l.length : Int) = n - 3
  ·rw [decide_eq_true hc, hc]
   simp
  ·rw [decide_eq_false hc]
   simp [hc]
 ·rw [decide_eq_false hn]
  simp [impl_IsTriangulation.j0]

theorem cnt_split {α : Type} (p q r : α → Bool) : ∀ l : List α, (∀ x ∈ l, p x = true → q x = true ∨ r x = true) → l.countP p ≤ l.countP q + l.countP r
 | [], _ => by simp
 | x :: l, h => by
  have ih := cnt_split p q r l (fun y hy => h y (List.mem_cons_of_mem _ hy))
  have hx := h x (List.mem_cons_self ..)
  simp only [List.countP_cons]
  cases hp : p x <;> cases hq : q x <;> cases hr : r x <;> simp_all <;> omega
theorem cnt_zero {α : Type} (p : α → Bool) (l : List α) (h : ∀ x ∈ l, p x = false) : l.countP p = 0 := by
 rw [List.countP_eq_zero]
 intro x hx
 simp [h x hx]
theorem last_of (P : Int → Prop) : ∀ (m : Nat) (lo hi : Int), hi - lo ≤ m → lo < hi → P lo → ∃ c, lo ≤ c ∧ c < hi ∧ P c ∧ ∀ c', c < c' → c' < hi → ¬ P c'
 | 0, lo, hi, h, h2, _ => by omega
 | m + 1, lo, hi, h, h2, hP => by
  by_cases hx : ∃ c, lo < c ∧ c < hi ∧ P c
  ·obtain ⟨c, h3, h4, h5⟩ := hx
   obtain ⟨e, h6, h7, h8, h9⟩ := last_of P m c hi (by omega) h4 h5
   exact ⟨e, by omega, h7, h8, h9⟩
  ·exact ⟨lo, by omega, h2, hP, fun c' h3 h4 h5 => hx ⟨c', h3, h4, h5⟩⟩

def hasD (l : List DG) (a b : Int) : Bool := l.any fun d => d.f0 == a && d.f1 == b
theorem hasD_of {l : List DG} {d : DG} (h : d ∈ l) : hasD l d.f0 d.f1 = true := List.any_eq_true.2 ⟨d, h, by simp⟩
theorem hasD_mem {l : List DG} {a b : Int} (h : hasD l a b = true) : ∃ d ∈ l, d.f0 = a ∧ d.f1 = b := by
 obtain ⟨d, h1, h2⟩ := List.any_eq_true.1 h
 simp only [Bool.and_eq_true, beq_iff_eq] at h2
 exact ⟨d, h1, h2⟩
def under (l : List DG) (i j : Int) : Nat := l.countP fun d => decide (i ≤ d.f0 ∧ d.f1 ≤ j)
def inner (l : List DG) (i j : Int) : Nat := l.countP fun d => decide (i ≤ d.f0 ∧ d.f1 ≤ j ∧ ¬ (d.f0 = i ∧ d.f1 = j))

structure Tri (n : Int) (l : List DG) : Prop where
 n3 : 3 ≤ n ∧ n ≤ 12
 len : (l.length : Int) = n - 3
 ok : ∀ d ∈ l, 0 ≤ d.f0 ∧ d.f1 ≤ n - 1 ∧ 2 ≤ d.f1 - d.f0 ∧ d.f1 - d.f0 ≤ n - 2
 nc : ∀ d ∈ l, ∀ e ∈ l, ¬ (d.f0 < e.f0 ∧ e.f0 < d.f1 ∧ d.f1 < e.f1)
 sorted : l.Pairwise fun d e => d.f0 < e.f0 ∨ (d.f0 = e.f0 ∧ d.f1 < e.f1)

theorem cnt_one (a b : Int) : ∀ l : List DG, (l.Pairwise fun d e => d.f0 < e.f0 ∨ (d.f0 = e.f0 ∧ d.f1 < e.f1)) → l.countP (fun d => decide (d.f0 = a ∧ d.f1 = b)) ≤ if hasD l a b = true then 1 else 0
 | [], _ => by simp
 | x :: l, h => by
  obtain ⟨h1, h2⟩ := List.pairwise_cons.1 h
  have ih := cnt_one a b l h2
  simp only [List.countP_cons]
  by_cases hx : x.f0 = a ∧ x.f1 = b
  ·have hz : l.countP (fun d => decide (d.f0 = a ∧ d.f1 = b)) = 0 := by
    apply cnt_zero
    intro y hy
    have := h1 y hy
    rw [decide_eq_false_iff_not]
    omega
   have hh : hasD (x :: l) a b = true := by
    rw [← hx.1, ← hx.2]
    exact hasD_of (List.mem_cons_self ..)
   rw [hz, if_pos hh]
   simp [hx]
  ·have hh : hasD (x :: l) a b = hasD l a b := by
    unfold hasD
    rw [List.any_cons]
    have : (x.f0 == a && x.f1 == b) = false := by
     rw [Bool.eq_false_iff]
     simpa using hx
    rw [this, Bool.false_or]
   rw [hh]
   simp only [hx, decide_false, Bool.false_eq_true, if_false]
   exact ih

theorem Tri.under_inner {n : Int} {l : List DG} (T : Tri n l) (i j : Int) : under l i j ≤ inner l i j + if hasD l i j = true then 1 else 0 := by
 have h1 := cnt_split (fun d : DG => decide (i ≤ d.f0 ∧ d.f1 ≤ j)) (fun d : DG => decide (i ≤ d.f0 ∧ d.f1 ≤ j ∧ ¬ (d.f0 = i ∧ d.f1 = j))) (fun d : DG => decide (d.f0 = i ∧ d.f1 = j)) l (fun x _ h => by
  simp only [decide_eq_true_eq] at h ⊢
  omega)
 have h2 := cnt_one i j l T.sorted
 unfold under inner
 omega

theorem Tri.half {n : Int} {l : List DG} (T : Tri n l) (a b : Int) (h1 : 1 ≤ b - a) (ih : 2 ≤ b - a → (inner l a b : Int) ≤ b - a - 2) :
  (under l a b : Int) ≤ b - a - 1 ∧ ((under l a b : Int) = b - a - 1 → b - a = 1 ∨ (hasD l a b = true ∧ 2 ≤ b - a ∧ (inner l a b : Int) = b - a - 2)) := by
 by_cases h2 : 2 ≤ b - a
 ·have h3 := ih h2
  have h4 := T.under_inner a b
  cases hh : hasD l a b
  ·rw [hh, if_neg (by simp)] at h4
   exact ⟨by omega, fun _ => by omega⟩
  ·rw [hh, if_pos rfl] at h4
   exact ⟨by omega, fun _ => .inr ⟨rfl, h2, by omega⟩⟩
 ·have hz : under l a b = 0 := by
   apply cnt_zero
   intro d hd
   have := T.ok d hd
   rw [decide_eq_false_iff_not]
   omega
  rw [hz]
  exact ⟨by omega, fun _ => .inl (by omega)⟩

theorem Tri.split {n : Int} {l : List DG} (T : Tri n l) (i j : Int) (h : 2 ≤ j - i) :
  ∃ c, i < c ∧ c < j ∧ ∀ d ∈ l, i ≤ d.f0 → d.f1 ≤ j → ¬ (d.f0 = i ∧ d.f1 = j) → d.f1 ≤ c ∨ c ≤ d.f0 := by
 obtain ⟨c, h1, h2, h3, h4⟩ := last_of (fun c => c = i + 1 ∨ hasD l i c = true) (j - (i + 1)).toNat (i + 1) j (by omega) (by omega) (.inl rfl)
 refine ⟨c, by omega, h2, fun d hd h5 h6 h7 => ?_⟩
 by_cases h8 : d.f1 ≤ c
 ·exact .inl h8
 ·by_cases h9 : c ≤ d.f0
  ·exact .inr h9
  ·exfalso
   by_cases e : d.f0 = i
   ·refine h4 d.f1 (by omega) (by omega) (.inr ?_)
    rw [← e]
    exact hasD_of hd
   ·rcases h3 with h3 | h3
    ·omega
    ·obtain ⟨x, hx, hx1, hx2⟩ := hasD_mem h3
     exact T.nc x hx d hd (by omega)

theorem inner_le (l : List DG) (i j c : Int) (h : ∀ d ∈ l, i ≤ d.f0 → d.f1 ≤ j → ¬ (d.f0 = i ∧ d.f1 = j) → d.f1 ≤ c ∨ c ≤ d.f0) : inner l i j ≤ under l i c + under l c j := by
 apply cnt_split
 intro d hd h1
 have h2 := h d hd
 simp only [decide_eq_true_eq] at h1 ⊢
 have h3 := h2 h1.1 h1.2.1 h1.2.2
 omega

theorem Tri.bound {n : Int} {l : List DG} (T : Tri n l) : ∀ (m : Nat) (i j : Int), j - i ≤ m → 2 ≤ j - i → (inner l i j : Int) ≤ j - i - 2
 | 0, i, j, h, h2 => by omega
 | m + 1, i, j, h, h2 => by
  obtain ⟨c, h3, h4, h5⟩ := T.split i j h2
  have h6 := inner_le l i j c h5
  have h7 := (T.half i c (by omega) (fun h => T.bound m i c (by omega) h)).1
  have h8 := (T.half c j (by omega) (fun h => T.bound m c j (by omega) h)).1
  omega

def Full (l : List DG) (i j : Int) : Prop := 2 ≤ j - i ∧ (inner l i j : Int) = j - i - 2

theorem Tri.apex {n : Int} {l : List DG} (T : Tri n l) (i j : Int) (hf : Full l i j) :
  ∃ c, i < c ∧ c < j ∧ (c - i = 1 ∨ (hasD l i c = true ∧ Full l i c)) ∧ (j - c = 1 ∨ (hasD l c j = true ∧ Full l c j)) ∧
   ∀ d ∈ l, i ≤ d.f0 → d.f1 ≤ j → ¬ (d.f0 = i ∧ d.f1 = j) → d.f1 ≤ c ∨ c ≤ d.f0 := by
 obtain ⟨h2, hf⟩ := hf
 obtain ⟨c, h3, h4, h5⟩ := T.split i j h2
 have h6 := inner_le l i j c h5
 obtain ⟨h7, g7⟩ := T.half i c (by omega) (fun h => T.bound (c - i).toNat i c (by omega) h)
 obtain ⟨h8, g8⟩ := T.half c j (by omega) (fun h => T.bound (j - c).toNat c j (by omega) h)
 exact ⟨c, h3, h4, g7 (by omega), g8 (by omega), h5⟩

/-- Two corners are joined: by a side or by a diagonal. -/
def J (n : Int) (l : List DG) (a b : Int) : Prop := b = a + 1 ∨ (a = 0 ∧ b = n - 1) ∨ hasD l a b = true

theorem J.of {n : Int} {l : List DG} {a b : Int} {P : Prop} (h : b - a = 1 ∨ (hasD l a b = true ∧ P)) : J n l a b := by
 rcases h with h | h
 ·exact .inl (by omega)
 ·exact .inr (.inr h.1)

theorem Tri.reach {n : Int} {l : List DG} (T : Tri n l) : ∀ (m : Nat) (i j : Int), j - i ≤ m → Full l i j → 0 ≤ i → j ≤ n - 1 → J n l i j → ∀ d ∈ l, i ≤ d.f0 → d.f1 ≤ j → ¬ (d.f0 = i ∧ d.f1 = j) →
  (∃ c, d.f0 < c ∧ c < d.f1 ∧ J n l d.f0 c ∧ J n l c d.f1) ∧ ∃ o, 0 ≤ o ∧ o ≤ n - 1 ∧ ((o < d.f0 ∧ J n l o d.f0 ∧ J n l o d.f1) ∨ (d.f1 < o ∧ J n l d.f0 o ∧ J n l d.f1 o))
 | 0, i, j, h, hf, _, _, _, d, _, _, _, _ => by have := hf.1; omega
 | m + 1, i, j, h, hf, hi, hj, hJ, d, hd, h1, h2, h3 => by
  obtain ⟨c, c1, c2, c3, c4, c5⟩ := T.apex i j hf
  have hok := T.ok d hd
  rcases c5 d hd h1 h2 h3 with h4 | h4
  ·rcases c3 with c3 | ⟨c3, f3⟩
   ·omega
   ·by_cases e : d.f0 = i ∧ d.f1 = c
    ·obtain ⟨e1, e2⟩ := e
     obtain ⟨x, x1, x2, x3, x4, _⟩ := T.apex i c f3
     rw [e1, e2]
     exact ⟨⟨x, x1, x2, J.of x3, J.of x4⟩, j, by omega, hj, .inr ⟨by omega, hJ, J.of c4⟩⟩
    ·exact T.reach m i c (by omega) f3 hi (by omega) (.inr (.inr c3)) d hd h1 h4 e
  ·rcases c4 with c4 | ⟨c4, f4⟩
   ·omega
   ·by_cases e : d.f0 = c ∧ d.f1 = j
    ·obtain ⟨e1, e2⟩ := e
     obtain ⟨x, x1, x2, x3, x4, _⟩ := T.apex c j f4
     rw [e1, e2]
     exact ⟨⟨x, x1, x2, J.of x3, J.of x4⟩, i, by omega, by omega, .inl ⟨by omega, J.of c3, hJ⟩⟩
    ·exact T.reach m c j (by omega) f4 (by omega) hj (.inr (.inr c4)) d hd h4 h2 e

theorem Tri.jcross {n : Int} {l : List DG} (T : Tri n l) {a b c d : Int} (h1 : J n l a b) (h2 : J n l c d) (ha : 0 ≤ a) (hd : d ≤ n - 1) : ¬ (a < c ∧ c < b ∧ b < d) := by
 intro h
 rcases h1 with h1 | h1 | h1
 ·omega
 ·omega
 ·rcases h2 with h2 | h2 | h2
  ·omega
  ·omega
  ·obtain ⟨x, hx, x1, x2⟩ := hasD_mem h1
   obtain ⟨y, hy, y1, y2⟩ := hasD_mem h2
   exact T.nc x hx y hy (by omega)

/-- The two corners with which the ends of a diagonal are joined: one inside, one outside, and no other. -/
theorem Tri.two {n : Int} {l : List DG} (T : Tri n l) (d : DG) (hd : d ∈ l) : ∃ x o, d.f0 < x ∧ x < d.f1 ∧ 0 ≤ o ∧ o ≤ n - 1 ∧ (o < d.f0 ∨ d.f1 < o) ∧
  (J n l d.f0 x ∧ J n l x d.f1) ∧ (J n l (min o d.f0) (max o d.f0) ∧ J n l (min o d.f1) (max o d.f1)) ∧
  ∀ c, 0 ≤ c → c ≤ n - 1 → c ≠ d.f0 → c ≠ d.f1 → (J n l (min c d.f0) (max c d.f0) ∧ J n l (min c d.f1) (max c d.f1)) → c = x ∨ c = o := by
 have hok := T.ok d hd
 have hn := T.n3
 have hfull : Full l 0 (n - 1) := by
  refine ⟨by omega, ?_⟩
  have : inner l 0 (n - 1) = l.length := by
   unfold inner
   rw [List.countP_eq_length]
   intro e he
   have := T.ok e he
   rw [decide_eq_true_eq]
   omega
  rw [this, T.len]
  omega
 obtain ⟨⟨x, x1, x2, x3, x4⟩, o, o1, o2, o3⟩ := T.reach (n - 1).toNat 0 (n - 1) (by omega) hfull (by omega) (by omega) (.inr (.inl ⟨rfl, rfl⟩)) d hd (by omega) (by omega) (by omega)
 refine ⟨x, o, x1, x2, o1, o2, by omega, ⟨x3, x4⟩, ?_, ?_⟩
 ·rcases o3 with ⟨h, h5, h6⟩ | ⟨h, h5, h6⟩
  ·rw [Int.min_eq_left (by omega), Int.max_eq_right (by omega), Int.min_eq_left (by omega), Int.max_eq_right (by omega)]
   exact ⟨h5, h6⟩
  ·rw [Int.min_eq_right (by omega), Int.max_eq_left (by omega), Int.min_eq_right (by omega), Int.max_eq_left (by omega)]
   exact ⟨h5, h6⟩
 ·intro c c1 c2 c3 c4 ⟨j1, j2⟩
  by_cases hx : c = x
  ·exact .inl hx
  ·by_cases ho : c = o
   ·exact .inr ho
   ·exfalso
    by_cases hin : d.f0 < c ∧ c < d.f1
    ·rw [Int.min_eq_right (by omega), Int.max_eq_left (by omega)] at j1
     rw [Int.min_eq_left (by omega), Int.max_eq_right (by omega)] at j2
     by_cases hlt : c < x
     ·exact T.jcross x3 j2 (by omega) (by omega) (by omega)
     ·exact T.jcross j1 x4 (by omega) (by omega) (by omega)
    ·rcases o3 with ⟨h, h5, h6⟩ | ⟨h, h5, h6⟩
     ·by_cases hc : c < d.f0
      ·rw [Int.min_eq_left (by omega), Int.max_eq_right (by omega)] at j1
       rw [Int.min_eq_left (by omega), Int.max_eq_right (by omega)] at j2
       by_cases hlt : c < o
       ·exact T.jcross j1 h6 (by omega) (by omega) (by omega)
       ·exact T.jcross h5 j2 (by omega) (by omega) (by omega)
      ·rw [Int.min_eq_right (by omega), Int.max_eq_left (by omega)] at j1
       exact T.jcross h6 j1 (by omega) (by omega) (by omega)
     ·by_cases hc : c < d.f0
      ·rw [Int.min_eq_left (by omega), Int.max_eq_right (by omega)] at j2
       exact T.jcross j2 h5 (by omega) (by omega) (by omega)
      ·rw [Int.min_eq_right (by omega), Int.max_eq_left (by omega)] at j1
       rw [Int.min_eq_right (by omega), Int.max_eq_left (by omega)] at j2
       by_cases hlt : c < o
       ·exact T.jcross j1 h6 (by omega) (by omega) (by omega)
       ·exact T.jcross h5 j2 (by omega) (by omega) (by omega)

theorem pair_chain (l : List DG) (h : ∀ j, 0 < j → j < l.length → (rD l (j - 1)).f0 < (rD l j).f0 ∨ ((rD l (j - 1)).f0 = (rD l j).f0 ∧ (rD l (j - 1)).f1 < (rD l j).f1)) : l.Pairwise fun d e => d.f0 < e.f0 ∨ (d.f0 = e.f0 ∧ d.f1 < e.f1) := by
 induction l with
 | nil => exact List.Pairwise.nil
 | cons x l ih =>
  have h' := ih (fun j j1 j2 => by
   have := h (j + 1) (by omega) (by simpa using j2)
   rw [show j + 1 - 1 = (j - 1) + 1 by omega] at this
   simpa [rD, rd_T36] using this)
  refine List.pairwise_cons.2 ⟨?_, h'⟩
  intro y hy
  cases l with
  | nil => cases hy
  | cons z l =>
   have h0 := h 1 (by omega) (by simp)
   have h1 : x.f0 < z.f0 ∨ (x.f0 = z.f0 ∧ x.f1 < z.f1) := by simpa [rD, rd_T36] using h0
   rcases List.mem_cons.1 hy with e | e
   ·rw [e]
    exact h1
   ·have := (List.pairwise_cons.1 h').1 y e
    omega

theorem rD_get (l : List DG) (j : Nat) (h : j < l.length) : rD l j = l[j] := by
 unfold rD rd_T36
 rw [Int.toNat_natCast, List.getD_eq_getElem?_getD, List.getElem?_eq_getElem h]
 rfl

theorem tri_of (n : Int) (l : List DG) (h : isTriB n l = true) : Tri n l := by
 unfold isTriB goodD at h
 simp only [Bool.and_eq_true, decide_eq_true_eq, List.all_eq_true] at h
 obtain ⟨hn, hl, hs⟩ := h
 have hst : ∀ j, j < l.length → stepD n l j = true := fun j hj => hs j (List.mem_range'_1.2 ⟨by omega, by omega⟩)
 have hok : ∀ d ∈ l, 0 ≤ d.f0 ∧ d.f1 ≤ n - 1 ∧ 2 ≤ d.f1 - d.f0 ∧ d.f1 - d.f0 ≤ n - 2 := by
  intro d hd
  obtain ⟨j, hj, e⟩ := List.getElem_of_mem hd
  have h1 := hst j hj
  rw [stepD_def, rD_get l j hj, e] at h1
  simp only [Bool.and_eq_true, diagB, decide_eq_true_eq] at h1
  omega
 have hnc : ∀ (j : Nat) (hj : j < l.length) (i : Nat) (hi : i < j), crossB l[j].f0 l[j].f1 l[i].f0 l[i].f1 = false := by
  intro j hj i hi
  have h1 := hst j hj
  rw [stepD_def, rD_get l j hj] at h1
  simp only [Bool.and_eq_true, Bool.not_eq_true'] at h1
  have h2 := List.any_eq_false.1 h1.2.2 l[i] (by
   rw [List.mem_take_iff_getElem]
   exact ⟨i, by omega, rfl⟩)
  simpa using h2
 refine ⟨hn, hl, hok, ?_, pair_chain l ?_⟩
 ·intro d hd e he hx
  obtain ⟨i, hi, e1⟩ := List.getElem_of_mem hd
  obtain ⟨j, hj, e2⟩ := List.getElem_of_mem he
  subst e1 e2
  rcases Nat.lt_trichotomy i j with h1 | h1 | h1
  ·have := hnc j hj i h1
   simp only [crossB, Bool.or_eq_false_iff, decide_eq_false_iff_not] at this
   omega
  ·subst h1
   omega
  ·have := hnc i hi j h1
   simp only [crossB, Bool.or_eq_false_iff, decide_eq_false_iff_not] at this
   omega
 ·intro j j1 j2
  have h1 := hst j j2
  rw [stepD_def] at h1
  have b0 : (j == 0) = false := by rw [beq_eq_false_iff_ne]; omega
  rw [b0] at h1
  simp only [Bool.and_eq_true, Bool.false_or, lessB, decide_eq_true_eq] at h1
  exact h1.2.1

def A1 (n : Int) (a : Nat) (b e : Nat) : List DG := ((List.range' b e).filter fun (b : Nat) => diagB n a b).map fun (b : Nat) => ⟨(a : Int), (b : Int)⟩
def A0 (n : Int) (N : Nat) (a e : Nat) : List DG := (List.range' a e).flatMap fun (a : Nat) => A1 n a (a + 1) (N - (a + 1))
theorem A1_len (n : Int) (a b e : Nat) : (A1 n a b e).length ≤ e := by
 unfold A1
 rw [List.length_map]
 exact Nat.le_trans (List.length_filter_le ..) (by rw [List.length_range']; exact Nat.le_refl _)
theorem all_l1 (n : Int) (N : Nat) (hN : (N : Int) = n) (hn : 3 ≤ n ∧ n ≤ 12) (a : Nat) (r : Option (List DG)) (e : Nat) :
  ∀ (b : Nat) (acc : List DG) (K : Nat), b + e = N → acc.length + e ≤ 4000 → (∀ q, K ≤ q → impl_allDiagonals.l0 q n (acc ++ A1 n a b e) n (wrap64 ((a : Int) + 1)) = r) →
  ∀ q, K + e < q → impl_allDiagonals.l1 q n acc (a : Int) (b : Int) n (a : Int) = r := by
 induction e with
 | zero =>
  intro b acc K he hacc h q hq
  obtain ⟨q, rfl⟩ : ∃ z, q = z + 1 := ⟨q - 1, by omega⟩
  simp only [impl_allDiagonals.l1]
  rw [if_neg (by omega)]
  have := h q (by omega)
  simpa [A1] using this
 | succ e ih =>
  intro b acc K he hacc h q hq
  obtain ⟨q, rfl⟩ : ∃ z, q = z + 1 := ⟨q - 1, by omega⟩
  have hlt : acc.length < 8796093022208 := by omega
  have hA : A1 n a b (e + 1) = (if diagB n a b = true then [(⟨(a : Int), (b : Int)⟩ : DG)] else []) ++ A1 n a (b + 1) e := by
   unfold A1
   rw [List.range'_succ, List.filter_cons]
   split <;> rfl
  simp only [impl_allDiagonals.l1]
  rw [if_pos (by omega), isDiagonal_tells n _ _ hn, Option.bind_some, wrap_succ b (by omega)]
  cases hd : diagB n a b with
  | false =>
   rw [if_neg (by simp)]
   refine ih (b + 1) acc K (by omega) (by omega) ?_ q (by omega)
   intro q' hq'
   have := h q' hq'
   rw [hA, hd, if_neg (by simp), List.nil_append] at this
   exact this
  | true =>
   rw [if_pos rfl, if_pos hlt]
   refine ih (b + 1) _ K (by omega) (by rw [List.length_append, List.length_singleton]; omega) ?_ q (by omega)
   intro q' hq'
   have := h q' hq'
   rw [hA, hd] at this
   simpa using this
theorem all_l0 (n : Int) (N : Nat) (hN : (N : Int) = n) (hn : 3 ≤ n ∧ n ≤ 12) (e : Nat) :
  ∀ (a : Nat) (acc : List DG), a + e = N → acc.length + 12 * e ≤ 3000 → ∀ q, 20 * e < q → impl_allDiagonals.l0 q n acc n (a : Int) = some (acc ++ A0 n N a e) := by
 induction e with
 | zero =>
  intro a acc he hacc q hq
  obtain ⟨q, rfl⟩ : ∃ z, q = z + 1 := ⟨q - 1, by omega⟩
  simp only [impl_allDiagonals.l0]
  rw [if_neg (by omega)]
  have e0 : A0 n N a 0 = [] := rfl
  rw [e0, List.append_nil]
 | succ e ih =>
  intro a acc he hacc q hq
  obtain ⟨q, rfl⟩ : ∃ z, q = z + 1 := ⟨q - 1, by omega⟩
  have hA : A0 n N a (e + 1) = A1 n a (a + 1) (N - (a + 1)) ++ A0 n N (a + 1) e := by
   unfold A0
   rw [List.range'_succ, List.flatMap_cons]
  have hlen := A1_len n a (a + 1) (N - (a + 1))
  rw [hA, ← List.append_assoc]
  simp only [impl_allDiagonals.l0]
  rw [if_pos (by omega), wrap_succ a (by omega)]
  refine all_l1 n N hN hn a _ (N - (a + 1)) (a + 1) acc (20 * e + 1) (by omega) (by omega) ?_ q (by omega)
  intro q' hq'
  rw [wrap_succ a (by omega)]
  exact ih (a + 1) _ (by omega) (by rw [List.length_append]; omega) q' (by omega)
theorem allDiagonals_tells (n : Int) (hn : 3 ≤ n ∧ n ≤ 12) (k : Nat) (hk : 300 < k) : impl_allDiagonals.f k n = some (A0 n n.toNat 0 n.toNat) := by
 have h := all_l0 n n.toNat (by omega) hn n.toNat 0 [] (by omega) (by simp; omega) k (by omega)
 rw [show ((0 : Nat) : Int) = 0 from rfl, List.nil_append] at h
 exact h

theorem lookL_mem (m : Int) : ∀ (r b : List DG), ∀ x ∈ lookL m r b, (x.length : Int) = m
 | [], _ => fun x hx => by cases hx
 | d :: r, b => fun x hx => by
  rw [lookL_cons] at hx
  rcases List.mem_append.1 hx with h | h
  ·split at h
   ·cases h
   ·unfold lookT at h
    split at h
    ·rw [List.mem_singleton.1 h]
     assumption
    ·exact lookL_mem m r _ x h
  ·exact lookL_mem m r b x h
theorem tris_len (n : Int) : ∀ x ∈ trisOf n, (x.length : Int) = n - 3 := by
 intro x hx
 unfold trisOf lookT at hx
 split at hx
 ·rename_i h
  rw [List.mem_singleton.1 hx]
  exact h
 ·exact lookL_mem _ _ _ x hx
theorem poAll_tells (n : Int) (hn : 3 ≤ n ∧ n ≤ 8) : spec_poAll.f n = some (trisOf n) := by
 unfold spec_poAll.f
 rw [if_pos hn]
theorem A0_diags (n : Int) (hn : 3 ≤ n ∧ n ≤ 8) : A0 n n.toNat 0 n.toNat = diagsOf n := by
 have : n = 3 ∨ n = 4 ∨ n = 5 ∨ n = 6 ∨ n = 7 ∨ n = 8 := by omega
 rcases this with rfl | rfl | rfl | rfl | rfl | rfl <;> rfl
theorem allTri_tells (n : Int) (hn : 3 ≤ n ∧ n ≤ 8) (k : Nat) (hk : 300 < k) : impl_allTriangulations.f k n = some (trisOf n) := by
 unfold impl_allTriangulations.f
 rw [allDiagonals_tells n (by omega) k hk, Option.bind_some, A0_diags n hn, if_pos ⟨hn.1, hn.2, diagsOf_le n hn⟩]
 rfl
theorem tris_small (n : Int) (hn : 3 ≤ n ∧ n ≤ 8) : (trisOf n).length ≤ 1048576 := trisOf_le n hn

def NC (b s : List DG) : Prop := s.Pairwise (fun d e => crossP e d = false) ∧ ∀ d ∈ s, ∀ e ∈ b, crossP d e = false
theorem any_false {d : DG} {b : List DG} (h : ∀ e ∈ b, crossP d e = false) : b.any (crossP d) = false := by
 rw [List.any_eq_false]
 intro e he
 rw [h e he]
 simp
theorem lookL_full (m : Int) {r s : List DG} (hs : s.Sublist r) : ∀ b : List DG, NC b s → (b.length : Int) < m → ((b ++ s).length : Int) = m → b ++ s ∈ lookL m r b := by
 induction hs with
 | slnil =>
  intro b _ h1 h2
  rw [List.append_nil] at h2
  omega
 | cons d _ ih =>
  intro b hn h1 h2
  rw [lookL_cons]
  exact List.mem_append_right _ (ih b hn h1 h2)
 | @cons_cons s r d _ ih =>
  intro b hn h1 h2
  rw [lookL_cons]
  refine List.mem_append_left _ ?_
  obtain ⟨p1, p2⟩ := hn
  obtain ⟨q1, q2⟩ := List.pairwise_cons.1 p1
  rw [any_false (p2 d (List.mem_cons_self ..)), if_neg (by simp)]
  have e : b ++ d :: s = (b ++ [d]) ++ s := by simp
  rw [e] at h2 ⊢
  unfold lookT
  by_cases hl : ((b ++ [d]).length : Int) = m
  ·have : s = [] := by
    rw [List.length_append] at h2
    exact List.length_eq_zero_iff.1 (by omega)
   rw [if_pos hl, this, List.append_nil]
   exact List.mem_singleton.2 rfl
  ·rw [if_neg hl]
   refine ih (b ++ [d]) ⟨q2, fun x hx y hy => ?_⟩ ?_ h2
   ·rcases List.mem_append.1 hy with hy | hy
    ·exact p2 x (List.mem_cons_of_mem _ hx) y hy
    ·rw [List.mem_singleton.1 hy]
     exact q1 x hx
   ·rw [List.length_append, List.length_singleton] at hl ⊢
    omega
theorem lookL_only (m : Int) : ∀ (r b : List DG), ∀ x ∈ lookL m r b, ∃ s, s.Sublist r ∧ NC b s ∧ x = b ++ s
 | [], _ => fun x hx => by cases hx
 | d :: r, b => fun x hx => by
  rw [lookL_cons] at hx
  rcases List.mem_append.1 hx with h | h
  ·by_cases ha : b.any (crossP d) = true
   ·rw [if_pos ha] at h
    cases h
   ·rw [if_neg ha] at h
    have hb : ∀ e ∈ b, crossP d e = false := by
     intro e he
     cases hc : crossP d e with
     | false => rfl
     | true => exact absurd (List.any_eq_true.2 ⟨e, he, hc⟩) ha
    unfold lookT at h
    split at h
    ·rw [List.mem_singleton.1 h]
     refine ⟨[d], (List.nil_sublist r).cons_cons d, ⟨List.pairwise_singleton _ _, fun x hx => ?_⟩, rfl⟩
     rw [List.mem_singleton.1 hx]
     exact hb
    ·obtain ⟨s, h1, ⟨h2, h3⟩, h4⟩ := lookL_only m r _ x h
     refine ⟨d :: s, h1.cons_cons d, ⟨List.pairwise_cons.2 ⟨fun y hy => h3 y hy d (by simp), h2⟩, fun y hy => ?_⟩, by rw [h4]; simp⟩
     rcases List.mem_cons.1 hy with e | e
     ·rw [e]
      exact hb
     ·exact fun z hz => h3 y e z (List.mem_append_left _ hz)
  ·obtain ⟨s, h1, h2, h3⟩ := lookL_only m r b x h
   exact ⟨s, h1.cons d, h2, h3⟩
def ltd (x y : DG) : Prop := x.f0 < y.f0 ∨ (x.f0 = y.f0 ∧ x.f1 < y.f1)
instance (x y : DG) : Decidable (ltd x y) := by unfold ltd; exact inferInstance
theorem sub_of_sorted : ∀ (D s : List DG), D.Pairwise ltd → s.Pairwise ltd → (∀ x ∈ s, x ∈ D) → s.Sublist D
 | [], s, _, _, h => by
  cases s with
  | nil => exact List.Sublist.slnil
  | cons x s => exact absurd (h x (List.mem_cons_self ..)) (by simp)
 | y :: D, [], _, _, _ => List.nil_sublist _
 | y :: D, x :: s, hD, hs, h => by
  obtain ⟨d1, d2⟩ := List.pairwise_cons.1 hD
  obtain ⟨s1, s2⟩ := List.pairwise_cons.1 hs
  have irr : ∀ z : DG, ¬ ltd z z := fun z hz => by unfold ltd at hz; omega
  have asy : ∀ z u : DG, ltd z u → ¬ ltd u z := fun z u h1 h2 => by unfold ltd at h1 h2; omega
  have tr : ∀ z u v : DG, ltd z u → ltd u v → ltd z v := fun z u v h1 h2 => by unfold ltd at *; omega
  rcases List.mem_cons.1 (h x (List.mem_cons_self ..)) with e | e
  ·rw [e]
   refine (sub_of_sorted D s d2 s2 (fun z hz => ?_)).cons_cons y
   rcases List.mem_cons.1 (h z (List.mem_cons_of_mem _ hz)) with e2 | e2
   ·have h3 := s1 z hz
    rw [e, e2] at h3
    exact absurd h3 (irr y)
   ·exact e2
  ·have hy := d1 x e
   refine (sub_of_sorted D (x :: s) d2 hs (fun z hz => ?_)).cons y
   rcases List.mem_cons.1 (h z hz) with e2 | e2
   ·rcases List.mem_cons.1 hz with e3 | e3
    ·exact absurd (by have h9 := hy; rw [← e3, e2] at h9; exact h9) (irr y)
    ·have h3 := s1 z e3
     rw [e2] at h3
     exact absurd h3 (asy _ _ hy)
   ·exact e2
theorem diags_mem (n : Int) (hn : 3 ≤ n ∧ n ≤ 8) (d : DG) : d ∈ diagsOf n ↔ (0 ≤ d.f0 ∧ d.f1 ≤ n - 1 ∧ 2 ≤ d.f1 - d.f0 ∧ d.f1 - d.f0 ≤ n - 2) := by
 obtain ⟨a, b⟩ := d
 unfold diagsOf paRows paRow pdB
 simp only [List.mem_flatMap, List.mem_map, List.mem_filter, List.mem_range'_1, decide_eq_true_eq]
 constructor
 ·rintro ⟨x, ⟨h1, h2⟩, y, ⟨⟨h3, h4⟩, h5⟩, h6⟩
  injection h6 with h6 h7
  omega
 ·rintro ⟨h1, h2, h3, h4⟩
  refine ⟨a.toNat, ⟨by omega, by omega⟩, b.toNat, ⟨⟨by omega, by omega⟩, by omega⟩, ?_⟩
  rw [Int.toNat_of_nonneg (by omega), Int.toNat_of_nonneg (by omega)]
theorem diags_sorted (n : Int) (hn : 3 ≤ n ∧ n ≤ 8) : (diagsOf n).Pairwise ltd := by
 have : n = 3 ∨ n = 4 ∨ n = 5 ∨ n = 6 ∨ n = 7 ∨ n = 8 := by omega
 rcases this with rfl | rfl | rfl | rfl | rfl | rfl <;> decide
theorem crossP_of (d e : DG) (h : crossP d e = false) : ¬ (d.f0 < e.f0 ∧ e.f0 < d.f1 ∧ d.f1 < e.f1) ∧ ¬ (e.f0 < d.f0 ∧ d.f0 < e.f1 ∧ e.f1 < d.f1) := by
 unfold crossP at h
 rw [Bool.or_eq_false_iff, decide_eq_false_iff_not, decide_eq_false_iff_not] at h
 exact h
theorem crossP_no {d e : DG} (h1 : ¬ (d.f0 < e.f0 ∧ e.f0 < d.f1 ∧ d.f1 < e.f1)) (h2 : ¬ (e.f0 < d.f0 ∧ d.f0 < e.f1 ∧ e.f1 < d.f1)) : crossP d e = false := by
 unfold crossP
 rw [Bool.or_eq_false_iff, decide_eq_false_iff_not, decide_eq_false_iff_not]
 exact ⟨h1, h2⟩
theorem tris_only (n : Int) (hn : 3 ≤ n ∧ n ≤ 8) (x : List DG) (hx : x ∈ trisOf n) : Tri n x := by
 have hlen := tris_len n x hx
 have hs : ∃ s, s.Sublist (diagsOf n) ∧ NC [] s ∧ x = s := by
  unfold trisOf lookT at hx
  split at hx
  ·exact ⟨[], List.nil_sublist _, ⟨List.Pairwise.nil, fun d hd => by cases hd⟩, List.mem_singleton.1 hx⟩
  ·exact lookL_only _ _ _ x hx
 obtain ⟨s, h1, ⟨h2, _⟩, rfl⟩ := hs
 refine ⟨by omega, hlen, fun d hd => (diags_mem n hn d).1 (h1.subset hd), ?_, (diags_sorted n hn).sublist h1⟩
 have key : ∀ (l : List DG), l.Pairwise (fun d e => crossP e d = false) → ∀ d ∈ l, ∀ e ∈ l, ¬ (d.f0 < e.f0 ∧ e.f0 < d.f1 ∧ d.f1 < e.f1) := by
  intro l
  induction l with
  | nil => intro _ d hd; cases hd
  | cons y l ih =>
   intro hp d hd e he
   obtain ⟨p1, p2⟩ := List.pairwise_cons.1 hp
   rcases List.mem_cons.1 hd with hd2 | hd2
   ·rcases List.mem_cons.1 he with he2 | he2
    ·rw [hd2, he2]
     omega
    ·rw [hd2]
     exact (crossP_of _ _ (p1 e he2)).2
   ·rcases List.mem_cons.1 he with he2 | he2
    ·rw [he2]
     exact (crossP_of _ _ (p1 d hd2)).1
    ·exact ih p2 d hd2 e he2
 exact key _ h2
theorem tris_full (n : Int) (hn : 3 ≤ n ∧ n ≤ 8) (x : List DG) (T : Tri n x) : x ∈ trisOf n := by
 have hsub : x.Sublist (diagsOf n) := sub_of_sorted _ _ (diags_sorted n hn) T.sorted (fun d hd => (diags_mem n hn d).2 (T.ok d hd))
 have hnc : NC [] x := by
  refine ⟨?_, fun d _ e he => by cases he⟩
  refine List.Pairwise.imp_of_mem (R := fun _ _ => True) ?_ (List.pairwise_of_forall (fun _ _ => trivial))
  intro d e hd he _
  exact crossP_no (T.nc e he d hd) (T.nc d hd e he)
 have hl := T.len
 unfold trisOf lookT
 by_cases h : (([] : List DG).length : Int) = n - 3
 ·rw [if_pos h]
  have : x = [] := List.length_eq_zero_iff.1 (by simp at h; omega)
  rw [this]
  exact List.mem_singleton.2 rfl
 ·rw [if_neg h]
  exact lookL_full (n - 3) hsub [] hnc (by simp at h ⊢; omega) (by simpa using hl)

def eqL : List DG → List DG → Bool
 | [], [] => true
 | x :: l, y :: m => (x.f0 == y.f0 && x.f1 == y.f1) && eqL l m
 | _, _ => false
theorem eqL_iff : ∀ (l m : List DG), eqL l m = true ↔ l = m
 | [], [] => by simp [eqL]
 | [], y :: m => by simp [eqL]
 | x :: l, [] => by simp [eqL]
 | x :: l, y :: m => by
  obtain ⟨a, b⟩ := x
  obtain ⟨c, d⟩ := y
  rw [eqL, Bool.and_eq_true, Bool.and_eq_true, eqL_iff l m, beq_iff_eq, beq_iff_eq]
  simp
theorem eqL_len : ∀ (l m : List DG), eqL l m = true → l.length = m.length := fun l m h => by rw [(eqL_iff l m).1 h]
theorem sameis_rounds (l m : List DG) (hlm : l.length = m.length) (hl : l.length ≤ 1048576) (e : Nat) : ∀ (i : Nat), i + e = l.length → ∀ k, e < k → spec_poSame.l0 k l m (l.length : Int) (i : Int) = some (eqL (l.drop i) (m.drop i)) := by
 induction e with
 | zero =>
  intro i hi k hk
  obtain ⟨k, rfl⟩ : ∃ q, k = q + 1 := ⟨k - 1, by omega⟩
  simp only [spec_poSame.l0]
  rw [if_neg (by omega), List.drop_of_length_le (by omega), List.drop_of_length_le (by omega)]
  rfl
 | succ e ih =>
  intro i hi k hk
  obtain ⟨k, rfl⟩ : ∃ q, k = q + 1 := ⟨k - 1, by omega⟩
  rw [rD_drop l i (by omega), rD_drop m i (by omega), eqL]
  simp only [spec_poSame.l0]
  rw [if_pos (by omega), if_pos (by omega), if_pos (by omega), if_pos (by omega)]
  cases h1 : (rD l i).f0 == (rD m i).f0 <;> cases h2 : (rD l i).f1 == (rD m i).f1
  ·rw [if_pos (by simp)]; simp
  ·rw [if_pos (by simp)]; simp
  ·rw [if_pos (by simp)]; simp
  ·rw [if_neg (by simp), wrap_succ i (by omega), ih (i + 1) (by omega) k (by omega)]; simp
theorem same_is (l m : List DG) (hl : l.length ≤ 1048576) (k : Nat) (hk : l.length < k) : spec_poSame.f k l m = some (eqL l m) := by
 unfold spec_poSame.f
 by_cases h : l.length = m.length
 ·rw [if_pos (by omega)]
  exact sameis_rounds l m h hl l.length 0 (by omega) k hk
 ·rw [if_neg (by omega)]
  cases he : eqL l m with
  | false => rfl
  | true => exact absurd (eqL_len l m he) h
theorem sameE_l0 (l m : List DG) (x12 : Int) : ∀ (k : Nat) (x13 : Int), spec_poSame.l0 k l m x12 x13 = impl_Diagonal_65.l0 k l m x12 x13
 | 0, _ => rfl
 | k + 1, x13 => by
  simp only [spec_poSame.l0, impl_Diagonal_65.l0, sameE_l0 l m x12 k]
theorem equal_is (l m : List DG) (hl : l.length ≤ 1048576) (k : Nat) (hk : l.length < k) : impl_Diagonal_65.f k l m = some (eqL l m) := by
 rw [← same_is l m hl k hk]
 unfold spec_poSame.f impl_Diagonal_65.f
 rw [sameE_l0]

def conv36 (x : S35) : S36 := ⟨x.f0, x.f1⟩
theorem toS36_rounds (x0 : List S35) (hl : x0.length ≤ 1048576) (d : Nat) : ∀ (i k : Nat) (x3 : List S36), x3.length = x0.length → i + d = x0.length → d < k →
  laws_toDiagonalS.l0 k x0 x3 (i : Int) = some (x3.take i ++ (x0.drop i).map conv36) := by
 induction d with
 | zero =>
  intro i k x3 h3 hi hk
  obtain ⟨k, rfl⟩ : ∃ m, k = m + 1 := ⟨k - 1, by omega⟩
  simp only [laws_toDiagonalS.l0]
  rw [if_neg (by omega), List.drop_of_length_le (by omega), List.take_of_length_le (by omega), List.map_nil, List.append_nil]
 | succ d ih =>
  intro i k x3 h3 hi hk
  obtain ⟨k, rfl⟩ : ∃ m, k = m + 1 := ⟨k - 1, by omega⟩
  simp only [laws_toDiagonalS.l0, laws_toDiagonal.f, Option.bind_some]
  rw [if_pos (by omega), if_pos (by omega), if_pos (by omega), wrap_succ i (by omega), ih (i + 1) k _ (by rw [List.length_set]; exact h3) (by omega) (by omega), Int.toNat_natCast, take_set_succ _ _ _ (by omega), getD_drop x0 z35 i (by omega), List.map_cons]
  simp [rd_T35, conv36]
theorem toS36_tells (x0 : List S35) (hl : x0.length ≤ 1048576) : Ev (fun k => laws_toDiagonalS.f k x0) (x0.map conv36) := by
 refine ⟨x0.length + 1, fun k hk => ?_⟩
 show laws_toDiagonalS.f k x0 = _
 unfold laws_toDiagonalS.f
 rw [if_pos (by omega), if_pos (by omega), Int.toNat_natCast]
 have h := toS36_rounds x0 hl x0.length 0 k (List.replicate x0.length z36) (by simp) (by omega) (by omega)
 simpa using h
theorem eqS36_rounds (l : List S36) (hl : l.length ≤ 4611686018427387904) (d : Nat) : ∀ (i k : Nat), i + d = l.length → d < k → laws_eqDiagonalS.l0 k l l (i : Int) = some true := by
 induction d with
 | zero =>
  intro i k hi hk
  obtain ⟨k, rfl⟩ : ∃ m, k = m + 1 := ⟨k - 1, by omega⟩
  simp only [laws_eqDiagonalS.l0]
  rw [if_neg (by omega)]
 | succ d ih =>
  intro i k hi hk
  obtain ⟨k, rfl⟩ : ∃ m, k = m + 1 := ⟨k - 1, by omega⟩
  simp only [laws_eqDiagonalS.l0, laws_eqDiagonal.f, if_true, Option.bind_some]
  rw [if_pos (by omega), if_pos (by omega), if_pos (by omega), wrap_succ i (by omega)]
  exact ih (i + 1) k (by omega) (by omega)
theorem eqS36_tells (l : List S36) (hl : l.length ≤ 4611686018427387904) : Ev (fun k => laws_eqDiagonalS.f k l l) true := by
 refine ⟨l.length + 1, fun k hk => ?_⟩
 show laws_eqDiagonalS.f k l l = _
 unfold laws_eqDiagonalS.f
 rw [if_pos rfl]
 exact eqS36_rounds l hl l.length 0 k (by omega) (by omega)
theorem sz36_tells (l : List S35) (n : Int) (h0 : 0 ≤ n) (h1 : n ≤ 1048576) (hl : l.length ≤ 4611686018427387904) : laws_szDiagonalS.f l n = some (if n - (l.length : Int) < 0 then -1 else n - (l.length : Int)) := by
 unfold laws_szDiagonalS.f
 have w : wrap64 (n - (l.length : Int)) = n - (l.length : Int) := by unfold wrap64; omega
 rw [w]
 split <;> rfl
theorem sz36_any (l : List S35) (n : Int) (h0 : 0 ≤ n) (h1 : n ≤ 1048576) (hl : l.length ≤ maxLen) : ∃ r, laws_szDiagonalS.f l n = some r ∧ (r < 0 ∨ (0 ≤ r ∧ r = n - (l.length : Int))) := by
 unfold maxLen at hl
 unfold laws_szDiagonalS.f
 by_cases h : wrap64 (n - (l.length : Int)) < 0
 ·rw [if_pos h]
  exact ⟨_, rfl, .inl (by omega)⟩
 ·rw [if_neg h]
  have w : wrap64 (n - (l.length : Int)) = n - (l.length : Int) := by unfold wrap64 at h ⊢; omega
  exact ⟨_, rfl, .inr ⟨by omega, w⟩⟩

theorem rank_rounds (L : List (List DG)) (C : List DG) (hL : L.length ≤ 1048576) (hC : ∀ x ∈ L, x.length ≤ 1000) (e : Nat) : ∀ (i : Nat), i + e = L.length → (∃ x ∈ L.drop i, eqL x C = true) → ∃ r : Int, ∀ k, e + 1001 < k →
  spec_RankOfTriangulation.l0 k C L (L.length : Int) (i : Int) = some (r, true) ∧ impl_Diagonal_63_s3.l0 k L (L.length : Int) (i : Int) C = some r := by
 induction e with
 | zero =>
  intro i hi ⟨x, hx, _⟩
  rw [List.drop_of_length_le (by omega)] at hx
  cases hx
 | succ e ih =>
  intro i hi ⟨x, hx, hxe⟩
  have er : rd_L3 L (i : Int) = L[i] := by
   unfold rd_L3
   rw [Int.toNat_natCast, List.getD_eq_getElem?_getD, List.getElem?_eq_getElem (by omega)]
   rfl
  have hlen := hC (L[i]) (List.getElem_mem _)
  rw [List.drop_eq_getElem_cons (by omega)] at hx
  cases hc : eqL (L[i]) C with
  | true =>
   refine ⟨i, fun k hk => ?_⟩
   obtain ⟨k, rfl⟩ : ∃ q, k = q + 1 := ⟨k - 1, by omega⟩
   simp only [spec_RankOfTriangulation.l0, impl_Diagonal_63_s3.l0, impl_RankOfTriangulation_1_s4.f, er, same_is _ C (show (L[i]).length ≤ 1048576 by omega) k (by omega), equal_is _ C (show (L[i]).length ≤ 1048576 by omega) k (by omega), hc, Option.bind_some, if_true]
   rw [if_pos (by omega), if_pos (by omega), if_pos (by omega), if_pos (by omega), if_pos (by omega), if_pos (by omega)]
   exact ⟨rfl, rfl⟩
  | false =>
   have hx2 : ∃ x ∈ L.drop (i + 1), eqL x C = true := by
    rcases List.mem_cons.1 hx with h | h
    ·rw [h, hc] at hxe
     cases hxe
    ·exact ⟨x, h, hxe⟩
   obtain ⟨r, hr⟩ := ih (i + 1) (by omega) hx2
   refine ⟨r, fun k hk => ?_⟩
   obtain ⟨k, rfl⟩ : ∃ q, k = q + 1 := ⟨k - 1, by omega⟩
   simp only [spec_RankOfTriangulation.l0, impl_Diagonal_63_s3.l0, impl_RankOfTriangulation_1_s4.f, er, same_is _ C (show (L[i]).length ≤ 1048576 by omega) k (by omega), equal_is _ C (show (L[i]).length ≤ 1048576 by omega) k (by omega), hc, Option.bind_some, Bool.false_eq_true, if_false]
   rw [if_pos (by omega), if_pos (by omega), if_pos (by omega), if_pos (by omega), if_pos (by omega), if_pos (by omega), wrap_succ i (by omega)]
   exact hr k (by omega)
/-- What both return. -/
theorem both (n : Int) (C : List DG) (hc : C.length ≤ 1048576) : ∃ K r ok, ∀ k, K ≤ k → spec_RankOfTriangulation.f k n C = some (r, ok) ∧ impl_RankOfTriangulation.f k n C = some (r, ok) := by
 obtain ⟨K, e1, e2⟩ := Ev.at2 (poGood_tells n C (by omega)) (isTri_tells n C (by omega))
 have E1 : ∀ k, K ≤ k → spec_poGood.f k n C = some (isTriB n C) := fun k hk => by rw [show k = K + (k - K) by omega]; exact e1 _
 have E2 : ∀ k, K ≤ k → impl_IsTriangulation.f k n C = some (isTriB n C) := fun k hk => by rw [show k = K + (k - K) by omega]; exact e2 _
 by_cases hn : 3 ≤ n ∧ n ≤ 8
 ·cases ht : isTriB n C
  ·refine ⟨K + 1, 0, false, fun k hk => ?_⟩
   obtain ⟨k, rfl⟩ : ∃ q, k = q + 1 := ⟨k - 1, by omega⟩
   simp [spec_RankOfTriangulation.f, impl_RankOfTriangulation.f, spec_caFew.f, impl_isListedPolygon.f, l1In_tells, within_tells, hn, E1 (k + 1) (by omega), E2 (k + 1) (by omega), ht, spec_RankOfTriangulation.j0, impl_RankOfTriangulation.j0]
  ·have T := tri_of n C ht
   have hmem := tris_full n hn C T
   have hsm := tris_small n hn
   obtain ⟨r, hr⟩ := rank_rounds (trisOf n) C hsm (fun x hx => by have := tris_len n x hx; omega) (trisOf n).length 0 (by omega) ⟨C, by rw [List.drop_zero]; exact hmem, (eqL_iff C C).2 rfl⟩
   refine ⟨K + (trisOf n).length + 2000, r, true, fun k hk => ?_⟩
   obtain ⟨k, rfl⟩ : ∃ q, k = q + 1 := ⟨k - 1, by omega⟩
   have h1 := hr k (by omega)
   rw [show ((0 : Nat) : Int) = 0 from rfl] at h1
   simp only [spec_RankOfTriangulation.f, impl_RankOfTriangulation.f, spec_caFew.f, impl_isListedPolygon.f, l1In_tells, within_tells, decide_eq_true hn, E1 (k + 1) (by omega), E2 (k + 1) (by omega), ht, spec_RankOfTriangulation.j0, impl_RankOfTriangulation.j0, Option.bind_some, if_true, Bool.not_true, Bool.false_eq_true, if_false, poAll_tells n hn, allTri_tells n hn k (by omega), h1.1, impl_Diagonal_63_s3.f, h1.2]
   exact ⟨trivial, trivial⟩
 ·refine ⟨K + 1, 0, false, fun k hk => ?_⟩
  obtain ⟨k, rfl⟩ : ∃ q, k = q + 1 := ⟨k - 1, by omega⟩
  cases ht : isTriB n C <;> simp [spec_RankOfTriangulation.f, impl_RankOfTriangulation.f, spec_caFew.f, impl_isListedPolygon.f, l1In_tells, within_tells, hn, E2 (k + 1) (by omega), ht, spec_RankOfTriangulation.j0, impl_RankOfTriangulation.j0]

theorem FnExactRankOfTriangulation (n : Int) (l : List S35) (_ : (Lit.int .i64 n).wf = true) (hm_l : l.length ≤ maxLen) (_ : ∀ y ∈ l, (Lit.int .i64 y.f0).wf = true ∧ (Lit.int .i64 y.f1).wf = true) :
  ∃ k, laws_FnExactRankOfTriangulation.f k n l = some true := by
 obtain ⟨q0, hr0, hz0⟩ := sz36_any l 1048576 (by omega) (by omega) hm_l
 rcases hz0 with hz0 | ⟨hz0, hy0⟩
 ·refine ⟨0, ?_⟩
  unfold laws_FnExactRankOfTriangulation.f
  rw [hr0, Option.bind_some, if_pos hz0]
 ·
  obtain ⟨Cl, hCl⟩ : ∃ C, C = l.map conv36 := ⟨_, rfl⟩
  have hcl : Cl.length ≤ 1048576 := by rw [hCl, List.length_map]; omega
  obtain ⟨K1, r, ok, hb⟩ := both n Cl hcl
  obtain ⟨K2, e0, e1⟩ := Ev.at2 (toS36_tells l (by omega)) (eqS36_tells Cl (by omega))
  simp only [← hCl] at e0
  obtain ⟨K3, hK3⟩ : ∃ K3 : Nat, K3 = 0 := ⟨_, rfl⟩
  obtain ⟨M, hM⟩ : ∃ M, M = K1 + (K2 + (K3 + (Cl.length + 1000))) := ⟨_, rfl⟩
  have b1 : ∀ j, spec_RankOfTriangulation.f (M + j) n Cl = some (r, ok) := fun j => (hb (M + j) (by omega)).1
  have b2 : ∀ j, impl_RankOfTriangulation.f (M + j) n Cl = some (r, ok) := fun j => (hb (M + j) (by omega)).2
  have t0 : ∀ j, laws_toDiagonalS.f (M + j) l = some Cl := fun j => by rw [show M + j = K2 + (M + j - K2) by omega]; exact e0 _
  have c0 : ∀ j, laws_eqDiagonalS.f (M + j) Cl Cl = some true := fun j => by rw [show M + j = K2 + (M + j - K2) by omega]; exact e1 _
  have j0 : laws_FnExactRankOfTriangulation.j0 (M + 2) l Cl false = some true := by
   simp only [laws_FnExactRankOfTriangulation.j0, t0, c0, Option.bind_some, Bool.false_eq_true, if_false, if_true]
  refine ⟨M + 2, ?_⟩
  simp only [laws_FnExactRankOfTriangulation.f, hr0, Option.bind_some, b1, b2, t0]
  rw [if_neg (by omega), if_pos trivial, bne_self_eq_false]
  exact j0

end Go.Proofs.Ytkipgbakoljaeaa.PureFnExactRankOfTriangulation
