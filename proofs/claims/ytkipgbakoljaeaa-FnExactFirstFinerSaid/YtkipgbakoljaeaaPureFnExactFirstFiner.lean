/- The program's FirstFiner and the reference's return the same for every number of corners and every list of pairs of numbers that the statement lets in: as long as the cut has fewer than n - 3 diagonals a free one exists; both take the first and sort it in. No condition. -/
import Derived.Test.YtkipgbakoljaeaaPFnExactFirstFinerx0
import Derived.Test.YtkipgbakoljaeaaPFnExactFirstFinerx1
import Derived.Test.YtkipgbakoljaeaaPFnExactFirstFinerx10
import Derived.Test.YtkipgbakoljaeaaPFnExactFirstFinerx11
import Derived.Test.YtkipgbakoljaeaaPFnExactFirstFinerx12
import Derived.Test.YtkipgbakoljaeaaPFnExactFirstFinerx13
import Derived.Test.YtkipgbakoljaeaaPFnExactFirstFinerx14
import Derived.Test.YtkipgbakoljaeaaPFnExactFirstFinerx2
import Derived.Test.YtkipgbakoljaeaaPFnExactFirstFinerx3
import Derived.Test.YtkipgbakoljaeaaPFnExactFirstFinerx4
import Derived.Test.YtkipgbakoljaeaaPFnExactFirstFinerx5
import Derived.Test.YtkipgbakoljaeaaPFnExactFirstFinerx6
import Derived.Test.YtkipgbakoljaeaaPFnExactFirstFinerx7
import Derived.Test.YtkipgbakoljaeaaPFnExactFirstFinerx8
import Derived.Test.YtkipgbakoljaeaaPFnExactFirstFinerx9
set_option linter.unusedSimpArgs false
set_option linter.unnecessarySimpa false
set_option linter.unusedVariables false
namespace Go.Proofs.Ytkipgbakoljaeaa.PureFnExactFirstFiner
open Go.RowKit Go.Proofs.Ytkipgbakoljaeaa.PFnExactFirstFiner Go.Proofs.YtkipgbakoljaeaaW.PrintWords Go.Proofs.YtkipgbakoljaeaaW.PrintLast

theorem Ev.at1 {α : Type} {g : Nat → Option α} {r : α} (h : Ev g r) : ∃ K, ∀ j, g (K + j) = some r := by
  obtain ⟨K, h⟩ := h
  exact ⟨K, fun j => h _ (by omega)⟩
theorem Ev.at2 {α β : Type} {g : Nat → Option α} {r : α} {g2 : Nat → Option β} {r2 : β} (h : Ev g r) (h2 : Ev g2 r2) : ∃ K, (∀ j, g (K + j) = some r) ∧ ∀ j, g2 (K + j) = some r2 := by
  obtain ⟨K, h⟩ := h
  obtain ⟨K2, h2⟩ := h2
  exact ⟨K + K2, fun j => h _ (by omega), fun j => h2 _ (by omega)⟩
theorem Ev.at3 {α β γ : Type} {g : Nat → Option α} {r : α} {g2 : Nat → Option β} {r2 : β} {g3 : Nat → Option γ} {r3 : γ} (h : Ev g r) (h2 : Ev g2 r2) (h3 : Ev g3 r3) :
    ∃ K, (∀ j, g (K + j) = some r) ∧ (∀ j, g2 (K + j) = some r2) ∧ ∀ j, g3 (K + j) = some r3 := by
  obtain ⟨K, h⟩ := h
  obtain ⟨K2, h2⟩ := h2
  obtain ⟨K3, h3⟩ := h3
  exact ⟨K + K2 + K3, fun j => h _ (by omega), fun j => h2 _ (by omega), fun j => h3 _ (by omega)⟩
theorem Ev.at4 {α β γ δ : Type} {g : Nat → Option α} {r : α} {g2 : Nat → Option β} {r2 : β} {g3 : Nat → Option γ} {r3 : γ} {g4 : Nat → Option δ} {r4 : δ} (h : Ev g r) (h2 : Ev g2 r2) (h3 : Ev g3 r3) (h4 : Ev g4 r4) :
    ∃ K, (∀ j, g (K + j) = some r) ∧ (∀ j, g2 (K + j) = some r2) ∧ (∀ j, g3 (K + j) = some r3) ∧ ∀ j, g4 (K + j) = some r4 := by
  obtain ⟨K, e1, e2, e3⟩ := Ev.at3 h h2 h3
  obtain ⟨K4, h4⟩ := h4
  exact ⟨K + K4, fun j => by rw [Nat.add_assoc]; exact e1 _, fun j => by rw [Nat.add_assoc]; exact e2 _, fun j => by rw [Nat.add_assoc]; exact e3 _, fun j => h4 _ (by omega)⟩
theorem Ev.all {α β : Type} {g : α → Nat → Option β} {r : α → β} (l : List α) (h : ∀ x, x ∈ l → Ev (g x) (r x)) : ∃ K, ∀ x, x ∈ l → ∀ k, K ≤ k → g x k = some (r x) := by
  induction l with
  | nil => exact ⟨0, fun x hx => by cases hx⟩
  | cons y l ih =>
    obtain ⟨K, hK⟩ := ih (fun x hx => h x (List.mem_cons_of_mem _ hx))
    obtain ⟨K2, hK2⟩ := h y (List.mem_cons_self ..)
    refine ⟨K + K2, fun x hx k hk => ?_⟩
    rcases List.mem_cons.1 hx with e | e
    · subst e
      exact hK2 k (by omega)
    · exact hK x e k (by omega)

theorem take_set_succ {α : Type} (l : List α) (i : Nat) (v : α) (h : i < l.length) : (l.set i v).take (i + 1) = l.take i ++ [v] := by
  rw [List.take_succ_eq_append_getElem (by rw [List.length_set]; exact h), List.getElem_set_self, List.take_set_of_le (Nat.le_refl i)]
theorem getD_drop {α : Type} (l : List α) (d : α) (i : Nat) (h : i < l.length) : l.drop i = l.getD i d :: l.drop (i + 1) := by
  rw [List.drop_eq_getElem_cons h, List.getD_eq_getElem?_getD, List.getElem?_eq_getElem h]
  rfl
theorem wrap_succ (i : Nat) (h : i < 4611686018427387904) : wrap64 ((i : Int) + 1) = ((i + 1 : Nat) : Int) := by unfold wrap64; omega
theorem wrap_pred (i : Nat) (h0 : 0 < i) (h : i < 4611686018427387904) : wrap64 ((i : Int) - 1) = ((i - 1 : Nat) : Int) := by unfold wrap64; omega

theorem l1In_tells (a b c : Int) : spec_l1In.f a b c = some (decide (b ≤ a ∧ a ≤ c)) := by
  unfold spec_l1In.f
  by_cases h : a ≥ b
  · rw [if_pos h]
    have : b ≤ a := h
    simp [this]
  · rw [if_neg h]
    have : ¬ b ≤ a := h
    simp [this]

theorem within_tells (a b c : Int) : impl_within.f a b c = some (decide (b ≤ a ∧ a ≤ c)) := by
  unfold impl_within.f
  by_cases h : a ≥ b
  · rw [if_pos h]
    have : b ≤ a := h
    simp [this]
  · rw [if_neg h]
    have : ¬ b ≤ a := h
    simp [this]

abbrev DG := S36
abbrev rD (l : List DG) (j : Nat) : DG := rd_T36 l (j : Int)
def crossB (a b c d : Int) : Bool := decide (a < c ∧ c < b ∧ b < d) || decide (c < a ∧ a < d ∧ d < b)
def diagB (n a b : Int) : Bool := decide (0 ≤ a ∧ b ≤ n - 1 ∧ b - a ≥ 2 ∧ b - a ≤ n - 2)
def lessB (a b c d : Int) : Bool := decide (a < c ∨ (a = c ∧ b < d))
def stepD (n : Int) (l : List DG) (j : Nat) : Bool :=
  diagB n (rD l j).f0 (rD l j).f1 && ((j == 0 || lessB (rD l (j - 1)).f0 (rD l (j - 1)).f1 (rD l j).f0 (rD l j).f1) && !(l.take j).any fun e => crossB (rD l j).f0 (rD l j).f1 e.f0 e.f1)
theorem stepD_def (n : Int) (l : List DG) (j : Nat) : stepD n l j = (diagB n (rD l j).f0 (rD l j).f1 && ((j == 0 || lessB (rD l (j - 1)).f0 (rD l (j - 1)).f1 (rD l j).f0 (rD l j).f1) && !(l.take j).any fun e => crossB (rD l j).f0 (rD l j).f1 e.f0 e.f1)) := rfl
def goodD (n : Int) (l : List DG) : Bool := (List.range' 0 l.length).all (stepD n l)

theorem rD_drop (l : List DG) (i : Nat) (h : i < l.length) : l.drop i = rD l i :: l.drop (i + 1) := by
  rw [getD_drop l z36 i h]
  unfold rD rd_T36
  rw [Int.toNat_natCast]
theorem any_take_step (p : DG → Bool) (l : List DG) (i : Nat) (h : i < l.length) : (l.drop i).any p = (p (rD l i) || (l.drop (i + 1)).any p) := by
  rw [rD_drop l i h, List.any_cons]

theorem poCross_tells (a b c d : Int) : spec_poCross.f a b c d = some (crossB a b c d) := by
  unfold spec_poCross.f crossB
  repeat' split
  all_goals congr 1; rw [Bool.eq_iff_iff]; simp only [Bool.or_eq_true, decide_eq_true_eq, Bool.false_eq_true, false_iff, true_iff]; omega
theorem poLess_tells (a b c d : Int) : spec_poLess.f a b c d = some (lessB a b c d) := by
  unfold spec_poLess.f lessB
  repeat' split
  all_goals congr 1; rw [Bool.eq_iff_iff]; simp only [decide_eq_true_eq, Bool.false_eq_true, false_iff, true_iff]; omega
theorem poIs_tells (n : Int) : spec_poIs.f n = some (decide (3 ≤ n ∧ n ≤ 12)) := by
  unfold spec_poIs.f
  rw [l1In_tells]
  rfl
theorem poDiagonal_tells (n a b : Int) (h : 3 ≤ n ∧ n ≤ 12) : spec_poDiagonal.f n a b = some (diagB n a b) := by
  unfold spec_poDiagonal.f diagB
  rw [poIs_tells, l1In_tells, l1In_tells, decide_eq_true h]
  have w : wrap64 (n - 1) = n - 1 := by unfold wrap64; omega
  have w2 : wrap64 (n - 2) = n - 2 := by unfold wrap64; omega
  simp only [Option.bind_some, if_true, w, w2, decide_eq_true_eq]
  by_cases h0 : 0 ≤ a ∧ a ≤ n - 1
  · by_cases h1 : 0 ≤ b ∧ b ≤ n - 1
    · have w3 : wrap64 (b - a) = b - a := by unfold wrap64; omega
      rw [if_pos h0, if_pos h1, w3]
      split
      all_goals congr 1; rw [Bool.eq_iff_iff]; simp only [decide_eq_true_eq, Bool.false_eq_true, false_iff]; omega
    · rw [if_pos h0, if_neg h1]
      congr 1; rw [Bool.eq_iff_iff]; simp only [decide_eq_true_eq, Bool.false_eq_true, false_iff]; omega
  · rw [if_neg h0]
    congr 1; rw [Bool.eq_iff_iff]; simp only [decide_eq_true_eq, Bool.false_eq_true, false_iff]; omega

theorem spec_cuGood_inner (n : Int) (l y x19 : List DG) (x20 x21 c d : Int) (hy : y.length ≤ 4611686018427387904) (e : Nat) : ∀ (m k : Nat), m + e = y.length → e < k →
    spec_cuGood.l1 k n l x19 x20 x21 y (y.length : Int) (m : Int) c d = if (y.drop m).any (fun z => crossB c d z.f0 z.f1) = true then some false else spec_cuGood.l0 (k - e - 1) n l x19 x20 (wrap64 (x21 + 1)) := by
  induction e with
  | zero =>
    intro m k hm hk
    obtain ⟨k, rfl⟩ : ∃ q, k = q + 1 := ⟨k - 1, by omega⟩
    simp only [spec_cuGood.l1]
    rw [if_neg (by omega), List.drop_of_length_le (by omega)]
    simp
  | succ e ih =>
    intro m k hm hk
    obtain ⟨k, rfl⟩ : ∃ q, k = q + 1 := ⟨k - 1, by omega⟩
    simp only [spec_cuGood.l1]
    rw [if_pos (by omega), if_pos (by omega), if_pos (by omega), poCross_tells, Option.bind_some, wrap_succ m (by omega), ih (m + 1) k (by omega) (by omega), any_take_step _ y m (by omega)]
    rw [show k + 1 - (e + 1) - 1 = k - e - 1 by omega]
    cases crossB c d (rD y m).f0 (rD y m).f1 <;> simp
theorem spec_cuGood_rounds (n : Int) (hn : 3 ≤ n ∧ n ≤ 12) (l : List DG) (hl : l.length ≤ 4611686018427387904) (d : Nat) : ∀ (i k : Nat), i + d = l.length → d * (l.length + 3) < k →
    spec_cuGood.l0 k n l l (l.length : Int) (i : Int) = some ((List.range' i d).all (stepD n l)) := by
  induction d with
  | zero =>
    intro i k hi hk
    obtain ⟨k, rfl⟩ : ∃ q, k = q + 1 := ⟨k - 1, by omega⟩
    simp only [spec_cuGood.l0]
    rw [if_neg (by omega)]
    rfl
  | succ d ih =>
    intro i k hi hk
    have hk2 : d * (l.length + 3) + (l.length + 3) < k := by rw [← Nat.succ_mul]; exact hk
    obtain ⟨k, rfl⟩ : ∃ q, k = q + 1 := ⟨k - 1, by omega⟩
    have hj : ∀ b : Bool, spec_cuGood.j2 k n l (i : Int) l (l.length : Int) (i : Int) b (rD l i).f0 (rD l i).f1 =
        if b = true then some false else if (l.take i).any (fun z => crossB (rD l i).f0 (rD l i).f1 z.f0 z.f1) = true then some false else some ((List.range' (i + 1) d).all (stepD n l)) := by
      intro b
      obtain ⟨k, rfl⟩ : ∃ q, k = q + 1 := ⟨k - 1, by omega⟩
      have ht : (l.take i).length = i := by rw [List.length_take]; omega
      have h1 := spec_cuGood_inner n l (l.take i) l (l.length : Int) (i : Int) (rD l i).f0 (rD l i).f1 (by omega) i 0 k (by omega) (by omega)
      rw [List.drop_zero, wrap_succ i (by omega), ih (i + 1) _ (by omega) (by omega)] at h1
      simp only [spec_cuGood.j2, Int.toNat_natCast, Option.bind_some]
      cases b
      · rw [if_neg (by simp), if_pos (by omega), if_pos (by omega), if_neg (by simp)]
        exact h1
      · rfl
    simp only [spec_cuGood.l0]
    rw [if_pos (by omega), if_pos (by omega), if_pos (by omega), poDiagonal_tells n _ _ hn, Option.bind_some, List.range'_succ, List.all_cons, hj, hj, stepD_def n l i]
    cases diagB n (rD l i).f0 (rD l i).f1 with
    | false => simp
    | true =>
      rw [if_pos rfl]
      by_cases h0 : i = 0
      · subst h0
        rw [if_neg (by omega)]
        cases (l.take 0).any (fun z => crossB (rD l 0).f0 (rD l 0).f1 z.f0 z.f1) <;> simp
      · have b0 : (i == 0) = false := by simp [h0]
        rw [if_pos (by omega), wrap_pred i (by omega) (by omega), if_pos (by omega), if_pos (by omega), poLess_tells, Option.bind_some, hj, b0]
        cases lessB (rD l (i - 1)).f0 (rD l (i - 1)).f1 (rD l i).f0 (rD l i).f1 <;> cases (l.take i).any (fun z => crossB (rD l i).f0 (rD l i).f1 z.f0 z.f1) <;> simp

def isCutB (n : Int) (l : List DG) : Bool := decide (3 ≤ n ∧ n ≤ 12) && (decide ((l.length : Int) ≤ n - 3) && goodD n l)
theorem cuGood_tells (n : Int) (l : List DG) (hl : l.length ≤ 4611686018427387904) : Ev (fun k => spec_cuGood.f k n l) (isCutB n l) := by
  refine ⟨l.length * (l.length + 3) + 2, fun k hk => ?_⟩
  obtain ⟨k, rfl⟩ : ∃ q, k = q + 1 := ⟨k - 1, by omega⟩
  show spec_cuGood.f (k + 1) n l = _
  unfold spec_cuGood.f isCutB goodD
  rw [poIs_tells, Option.bind_some]
  by_cases hn : 3 ≤ n ∧ n ≤ 12
  · have w : wrap64 (n - 3) = n - 3 := by unfold wrap64; omega
    have h := spec_cuGood_rounds n hn l hl l.length 0 k (by omega) (by omega)
    rw [show ((0 : Nat) : Int) = 0 from rfl] at h
    rw [decide_eq_true hn, if_pos rfl, w]
    simp only [spec_cuGood.j0, h]
    by_cases hc : (l.length : Int) > n - 3
    · rw [decide_eq_true hc, decide_eq_false (by omega)]
      rfl
    · rw [decide_eq_false hc, decide_eq_true (by omega)]
      rfl
  · rw [decide_eq_false hn]
    rfl

theorem doCross_tells (a b c d : Int) : impl_doCross.f a b c d = some (crossB a b c d) := by
  unfold impl_doCross.f crossB
  repeat' split
  all_goals congr 1; rw [Bool.eq_iff_iff]; simp only [Bool.or_eq_true, decide_eq_true_eq, Bool.false_eq_true, false_iff, true_iff]; omega
theorem isPolygon_tells (n : Int) : impl_isPolygon.f n = some (decide (3 ≤ n ∧ n ≤ 12)) := by
  unfold impl_isPolygon.f
  rw [within_tells]
  rfl
theorem isDiagonal_tells (n a b : Int) (h : 3 ≤ n ∧ n ≤ 12) : impl_isDiagonal.f n a b = some (diagB n a b) := by
  unfold impl_isDiagonal.f diagB
  rw [within_tells, within_tells]
  have w : wrap64 (n - 1) = n - 1 := by unfold wrap64; omega
  simp only [Option.bind_some, w, decide_eq_true_eq]
  by_cases h0 : 0 ≤ a ∧ a ≤ n - 1
  · by_cases h1 : 0 ≤ b ∧ b ≤ n - 1
    · have w3 : wrap64 (b - a) = b - a := by unfold wrap64; omega
      rw [if_pos h0, if_pos h1, w3]
      repeat' split
      all_goals congr 1; rw [Bool.eq_iff_iff]; simp only [decide_eq_true_eq, Bool.false_eq_true, false_iff, Bool.not_eq_true', beq_eq_false_iff_ne, ne_eq, Bool.not_false, true_iff]; omega
    · rw [if_pos h0, if_neg h1]
      congr 1; rw [Bool.eq_iff_iff]; simp only [decide_eq_true_eq, Bool.false_eq_true, false_iff]; omega
  · rw [if_neg h0]
    congr 1; rw [Bool.eq_iff_iff]; simp only [decide_eq_true_eq, Bool.false_eq_true, false_iff]; omega
def cmpI (a c : Int) : Int := if a < c then -1 else if a > c then 1 else 0
def cmpD (a b c d : Int) : Int := if a = c then cmpI b d else cmpI a c
theorem compare_tells (a c : Int) : cmp_Compare_int.f a c = some (cmpI a c) := by
  unfold cmp_Compare_int.f cmp_isNaN_int.f cmpI
  have h0 : (a != a) = false := by simp
  have h1 : (c != c) = false := by simp
  rw [h0, h1]
  simp only [Option.bind_some, Bool.false_eq_true, if_false]
  repeat' split
  all_goals rfl
theorem compareDiagonals_tells (a b c d : Int) (k : Nat) (hk : 3 ≤ k) : impl_compareDiagonals.f k a b c d = some (cmpD a b c d) := by
  obtain ⟨k, rfl⟩ : ∃ q, k = q + 3 := ⟨k - 3, by omega⟩
  unfold impl_compareDiagonals.f cmp_Or_int.f
  rw [compare_tells, compare_tells]
  simp only [Option.bind_some, List.length_cons, List.length_nil]
  have r0 : rd [cmpI a c, cmpI b d] 0 = cmpI a c := rfl
  have r1 : rd [cmpI a c, cmpI b d] 1 = cmpI b d := rfl
  have w0 : wrap64 (0 + 1) = 1 := by unfold wrap64; omega
  have w1 : wrap64 (1 + 1) = 2 := by unfold wrap64; omega
  simp only [cmp_Or_int.l0, w0, w1, r0, r1]
  unfold cmpD
  by_cases e : a = c
  · have z : cmpI a c = 0 := by unfold cmpI; rw [if_neg (by omega), if_neg (by omega)]
    rw [if_pos e, z]
    by_cases z2 : cmpI b d = 0
    · simp [z2]
    · simp [z2]
  · have z : ¬ cmpI a c = 0 := by unfold cmpI; split; · omega
                                  split <;> omega
    rw [if_neg e]
    simp [z]
theorem cmpD_nonneg (a b c d : Int) : cmpD a b c d ≥ 0 ↔ lessB a b c d = false := by
  unfold cmpD cmpI lessB
  rw [decide_eq_false_iff_not]
  repeat' split
  all_goals omega

theorem impl_Diagonal_89_s1_rounds (l : List DG) (c d : Int) (hl : l.length ≤ 4611686018427387904) (e : Nat) : ∀ (i k : Nat), i + e = l.length → e < k →
    ∃ r, impl_Diagonal_89_s1.l0 k l (l.length : Int) (i : Int) c d = some r ∧ (r ≥ 0 ↔ (l.drop i).any (fun z => crossB c d z.f0 z.f1) = true) := by
  induction e with
  | zero =>
    intro i k hi hk
    obtain ⟨k, rfl⟩ : ∃ q, k = q + 1 := ⟨k - 1, by omega⟩
    simp only [impl_Diagonal_89_s1.l0]
    rw [if_neg (by omega), List.drop_of_length_le (by omega)]
    exact ⟨-1, rfl, by simp⟩
  | succ e ih =>
    intro i k hi hk
    obtain ⟨k, rfl⟩ : ∃ q, k = q + 1 := ⟨k - 1, by omega⟩
    obtain ⟨r, hr, hr2⟩ := ih (i + 1) k (by omega) (by omega)
    simp only [impl_Diagonal_89_s1.l0, impl_crosses_1_s2.f]
    rw [if_pos (by omega), if_pos (by omega), if_pos (by omega), doCross_tells, wrap_succ i (by omega), hr, any_take_step _ l i (by omega)]
    simp only [Option.bind_some]
    cases hc : crossB c d (rD l i).f0 (rD l i).f1 with
    | true => exact ⟨i, rfl, by simp⟩
    | false => exact ⟨r, rfl, by rw [Bool.false_or]; exact hr2⟩
theorem impl_Diagonal_84_s0_tells (l : List DG) (c d : Int) (hl : l.length ≤ 4611686018427387904) (k : Nat) (hk : l.length < k) : impl_Diagonal_84_s0.f k l c d = some (l.any fun z => crossB c d z.f0 z.f1) := by
  obtain ⟨r, hr, hr2⟩ := impl_Diagonal_89_s1_rounds l c d hl l.length 0 k (by omega) hk
  unfold impl_Diagonal_84_s0.f impl_Diagonal_89_s1.f
  rw [show ((0 : Nat) : Int) = 0 from rfl] at hr
  rw [hr, Option.bind_some]
  congr 1
  rw [Bool.eq_iff_iff, decide_eq_true_iff, hr2, List.drop_zero]

theorem crosses_tells (l : List DG) (c d : Int) (hl : l.length ≤ 4611686018427387904) (k : Nat) (hk : l.length < k) : impl_crosses.f k l c d = some (l.any fun z => crossB c d z.f0 z.f1) := by
  unfold impl_crosses.f
  rw [impl_Diagonal_84_s0_tells l c d hl k hk]
  rfl

theorem impl_IsCut_rounds (n : Int) (hn : 3 ≤ n ∧ n ≤ 12) (l : List DG) (hl : l.length ≤ 4611686018427387904) (d : Nat) : ∀ (i k : Nat), i + d = l.length → d + l.length + 3 < k →
    impl_IsCut.l0 k n l l (l.length : Int) (i : Int) = some ((List.range' i d).all (stepD n l)) := by
  induction d with
  | zero =>
    intro i k hi hk
    obtain ⟨k, rfl⟩ : ∃ q, k = q + 1 := ⟨k - 1, by omega⟩
    simp only [impl_IsCut.l0]
    rw [if_neg (by omega)]
    rfl
  | succ d ih =>
    intro i k hi hk
    obtain ⟨k, rfl⟩ : ∃ q, k = q + 1 := ⟨k - 1, by omega⟩
    have ht : (l.take i).length = i := by rw [List.length_take]; omega
    have hc : impl_crosses.f k (l.take i) (rD l i).f0 (rD l i).f1 = some ((l.take i).any fun z => crossB (rD l i).f0 (rD l i).f1 z.f0 z.f1) := crosses_tells _ _ _ (by omega) k (by omega)
    simp only [impl_IsCut.l0, Int.toNat_natCast]
    rw [if_pos (by omega), if_pos (by omega), if_pos (by omega), isDiagonal_tells n _ _ hn, Option.bind_some, hc, Option.bind_some, wrap_succ i (by omega), ih (i + 1) k (by omega) (by omega), List.range'_succ, List.all_cons, stepD_def n l i]
    cases diagB n (rD l i).f0 (rD l i).f1 with
    | false => simp
    | true =>
      rw [if_pos rfl]
      by_cases h0 : i = 0
      · subst h0
        rw [if_neg (by omega), if_pos (by omega)]
        cases (l.take 0).any (fun z => crossB (rD l 0).f0 (rD l 0).f1 z.f0 z.f1) <;> simp
      · have b0 : (i == 0) = false := by simp [h0]
        rw [if_pos (by omega), wrap_pred i (by omega) (by omega), if_pos (by omega), if_pos (by omega), compareDiagonals_tells _ _ _ _ k (by omega), Option.bind_some, b0]
        have hcm := cmpD_nonneg (rD l (i - 1)).f0 (rD l (i - 1)).f1 (rD l i).f0 (rD l i).f1
        cases hs : lessB (rD l (i - 1)).f0 (rD l (i - 1)).f1 (rD l i).f0 (rD l i).f1 with
        | false => rw [if_pos (hcm.2 hs)]; simp
        | true =>
          rw [if_neg (fun h => by rw [hcm.1 h] at hs; cases hs), if_pos (by omega)]
          cases (l.take i).any (fun z => crossB (rD l i).f0 (rD l i).f1 z.f0 z.f1) <;> simp

theorem isCut_tells (n : Int) (l : List DG) (hl : l.length ≤ 4611686018427387904) : Ev (fun k => impl_IsCut.f k n l) (isCutB n l) := by
  refine ⟨l.length + l.length + 5, fun k hk => ?_⟩
  obtain ⟨k, rfl⟩ : ∃ q, k = q + 1 := ⟨k - 1, by omega⟩
  show impl_IsCut.f (k + 1) n l = _
  unfold impl_IsCut.f isCutB goodD
  rw [isPolygon_tells, Option.bind_some]
  by_cases hn : 3 ≤ n ∧ n ≤ 12
  · have w : wrap64 (n - 3) = n - 3 := by unfold wrap64; omega
    have h := impl_IsCut_rounds n hn l hl l.length 0 k (by omega) (by omega)
    rw [show ((0 : Nat) : Int) = 0 from rfl] at h
    rw [decide_eq_true hn, if_pos rfl, w]
    simp only [impl_IsCut.j0, h]
    by_cases hc : (l.length : Int) > n - 3
    · rw [decide_eq_true hc, decide_eq_false (by omega)]
      rfl
    · rw [decide_eq_false hc, decide_eq_true (by omega)]
      rfl
  · rw [decide_eq_false hn]
    simp [impl_IsCut.j0]

theorem cut_ok (n : Int) (l : List DG) (h : isCutB n l = true) : (3 ≤ n ∧ n ≤ 12) ∧ (l.length : Int) ≤ n - 3 ∧ ∀ d ∈ l, 0 ≤ d.f0 ∧ d.f1 ≤ n - 1 ∧ 2 ≤ d.f1 - d.f0 ∧ d.f1 - d.f0 ≤ n - 2 := by
  unfold isCutB goodD at h
  simp only [Bool.and_eq_true, decide_eq_true_eq, List.all_eq_true] at h
  obtain ⟨hn, hl, hs⟩ := h
  refine ⟨hn, hl, fun d hd => ?_⟩
  obtain ⟨j, hj, e⟩ := List.getElem_of_mem hd
  have h1 := hs j (List.mem_range'_1.2 ⟨by omega, by omega⟩)
  have hg : rD l j = d := by
    unfold rD rd_T36
    rw [Int.toNat_natCast, List.getD_eq_getElem?_getD, List.getElem?_eq_getElem hj, ← e]
    rfl
  rw [stepD_def, hg] at h1
  simp only [Bool.and_eq_true, diagB, decide_eq_true_eq] at h1
  omega

def isTriB (n : Int) (l : List DG) : Bool := decide (3 ≤ n ∧ n ≤ 12) && (decide ((l.length : Int) = n - 3) && goodD n l)

theorem cnt_split {α : Type} (p q r : α → Bool) : ∀ l : List α, (∀ x ∈ l, p x = true → q x = true ∨ r x = true) → l.countP p ≤ l.countP q + l.countP r
  | [], _ => by simp
  | x :: l, h => by
    have ih := cnt_split p q r l (fun y hy => h y (List.mem_cons_of_mem _ hy))
    have hx := h x (List.mem_cons_self ..)
    simp only [List.countP_cons]
    cases hp : p x <;> cases hq : q x <;> cases hr : r x <;> simp_all <;> omega
theorem cnt_zero {α : Type} (p : α → Bool) (l : List α) (h : ∀ x ∈ l, p x = false) : l.countP p = 0 := by
  rw [List.countP_eq_zero]
  intro x hx
  simp [h x hx]
theorem last_of (P : Int → Prop) : ∀ (m : Nat) (lo hi : Int), hi - lo ≤ m → lo < hi → P lo → ∃ c, lo ≤ c ∧ c < hi ∧ P c ∧ ∀ c', c < c' → c' < hi → ¬ P c'
  | 0, lo, hi, h, h2, _ => by omega
  | m + 1, lo, hi, h, h2, hP => by
    by_cases hx : ∃ c, lo < c ∧ c < hi ∧ P c
    · obtain ⟨c, h3, h4, h5⟩ := hx
      obtain ⟨e, h6, h7, h8, h9⟩ := last_of P m c hi (by omega) h4 h5
      exact ⟨e, by omega, h7, h8, h9⟩
    · exact ⟨lo, by omega, h2, hP, fun c' h3 h4 h5 => hx ⟨c', h3, h4, h5⟩⟩

def hasD (l : List DG) (a b : Int) : Bool := l.any fun d => d.f0 == a && d.f1 == b
theorem hasD_of {l : List DG} {d : DG} (h : d ∈ l) : hasD l d.f0 d.f1 = true := List.any_eq_true.2 ⟨d, h, by simp⟩
theorem hasD_mem {l : List DG} {a b : Int} (h : hasD l a b = true) : ∃ d ∈ l, d.f0 = a ∧ d.f1 = b := by
  obtain ⟨d, h1, h2⟩ := List.any_eq_true.1 h
  simp only [Bool.and_eq_true, beq_iff_eq] at h2
  exact ⟨d, h1, h2⟩
def under (l : List DG) (i j : Int) : Nat := l.countP fun d => decide (i ≤ d.f0 ∧ d.f1 ≤ j)
def inner (l : List DG) (i j : Int) : Nat := l.countP fun d => decide (i ≤ d.f0 ∧ d.f1 ≤ j ∧ ¬ (d.f0 = i ∧ d.f1 = j))

structure Tri (n : Int) (l : List DG) : Prop where
  n3 : 3 ≤ n ∧ n ≤ 12
  len : (l.length : Int) = n - 3
  ok : ∀ d ∈ l, 0 ≤ d.f0 ∧ d.f1 ≤ n - 1 ∧ 2 ≤ d.f1 - d.f0 ∧ d.f1 - d.f0 ≤ n - 2
  nc : ∀ d ∈ l, ∀ e ∈ l, ¬ (d.f0 < e.f0 ∧ e.f0 < d.f1 ∧ d.f1 < e.f1)
  sorted : l.Pairwise fun d e => d.f0 < e.f0 ∨ (d.f0 = e.f0 ∧ d.f1 < e.f1)

theorem cnt_one (a b : Int) : ∀ l : List DG, (l.Pairwise fun d e => d.f0 < e.f0 ∨ (d.f0 = e.f0 ∧ d.f1 < e.f1)) → l.countP (fun d => decide (d.f0 = a ∧ d.f1 = b)) ≤ if hasD l a b = true then 1 else 0
  | [], _ => by simp
  | x :: l, h => by
    obtain ⟨h1, h2⟩ := List.pairwise_cons.1 h
    have ih := cnt_one a b l h2
    simp only [List.countP_cons]
    by_cases hx : x.f0 = a ∧ x.f1 = b
    · have hz : l.countP (fun d => decide (d.f0 = a ∧ d.f1 = b)) = 0 := by
        apply cnt_zero
        intro y hy
        have := h1 y hy
        rw [decide_eq_false_iff_not]
        omega
      have hh : hasD (x :: l) a b = true := by
        rw [← hx.1, ← hx.2]
        exact hasD_of (List.mem_cons_self ..)
      rw [hz, if_pos hh]
      simp [hx]
    · have hh : hasD (x :: l) a b = hasD l a b := by
        unfold hasD
        rw [List.any_cons]
        have : (x.f0 == a && x.f1 == b) = false := by
          rw [Bool.eq_false_iff]
          simpa using hx
        rw [this, Bool.false_or]
      rw [hh]
      simp only [hx, decide_false, Bool.false_eq_true, if_false]
      exact ih

theorem Tri.under_inner {n : Int} {l : List DG} (T : Tri n l) (i j : Int) : under l i j ≤ inner l i j + if hasD l i j = true then 1 else 0 := by
  have h1 := cnt_split (fun d : DG => decide (i ≤ d.f0 ∧ d.f1 ≤ j)) (fun d : DG => decide (i ≤ d.f0 ∧ d.f1 ≤ j ∧ ¬ (d.f0 = i ∧ d.f1 = j))) (fun d : DG => decide (d.f0 = i ∧ d.f1 = j)) l (fun x _ h => by
    simp only [decide_eq_true_eq] at h ⊢
    omega)
  have h2 := cnt_one i j l T.sorted
  unfold under inner
  omega

theorem Tri.half {n : Int} {l : List DG} (T : Tri n l) (a b : Int) (h1 : 1 ≤ b - a) (ih : 2 ≤ b - a → (inner l a b : Int) ≤ b - a - 2) :
    (under l a b : Int) ≤ b - a - 1 ∧ ((under l a b : Int) = b - a - 1 → b - a = 1 ∨ (hasD l a b = true ∧ 2 ≤ b - a ∧ (inner l a b : Int) = b - a - 2)) := by
  by_cases h2 : 2 ≤ b - a
  · have h3 := ih h2
    have h4 := T.under_inner a b
    cases hh : hasD l a b
    · rw [hh, if_neg (by simp)] at h4
      exact ⟨by omega, fun _ => by omega⟩
    · rw [hh, if_pos rfl] at h4
      exact ⟨by omega, fun _ => .inr ⟨rfl, h2, by omega⟩⟩
  · have hz : under l a b = 0 := by
      apply cnt_zero
      intro d hd
      have := T.ok d hd
      rw [decide_eq_false_iff_not]
      omega
    rw [hz]
    exact ⟨by omega, fun _ => .inl (by omega)⟩

theorem Tri.split {n : Int} {l : List DG} (T : Tri n l) (i j : Int) (h : 2 ≤ j - i) :
    ∃ c, i < c ∧ c < j ∧ ∀ d ∈ l, i ≤ d.f0 → d.f1 ≤ j → ¬ (d.f0 = i ∧ d.f1 = j) → d.f1 ≤ c ∨ c ≤ d.f0 := by
  obtain ⟨c, h1, h2, h3, h4⟩ := last_of (fun c => c = i + 1 ∨ hasD l i c = true) (j - (i + 1)).toNat (i + 1) j (by omega) (by omega) (.inl rfl)
  refine ⟨c, by omega, h2, fun d hd h5 h6 h7 => ?_⟩
  by_cases h8 : d.f1 ≤ c
  · exact .inl h8
  · by_cases h9 : c ≤ d.f0
    · exact .inr h9
    · exfalso
      by_cases e : d.f0 = i
      · refine h4 d.f1 (by omega) (by omega) (.inr ?_)
        rw [← e]
        exact hasD_of hd
      · rcases h3 with h3 | h3
        · omega
        · obtain ⟨x, hx, hx1, hx2⟩ := hasD_mem h3
          exact T.nc x hx d hd (by omega)

theorem inner_le (l : List DG) (i j c : Int) (h : ∀ d ∈ l, i ≤ d.f0 → d.f1 ≤ j → ¬ (d.f0 = i ∧ d.f1 = j) → d.f1 ≤ c ∨ c ≤ d.f0) : inner l i j ≤ under l i c + under l c j := by
  apply cnt_split
  intro d hd h1
  have h2 := h d hd
  simp only [decide_eq_true_eq] at h1 ⊢
  have h3 := h2 h1.1 h1.2.1 h1.2.2
  omega

theorem Tri.bound {n : Int} {l : List DG} (T : Tri n l) : ∀ (m : Nat) (i j : Int), j - i ≤ m → 2 ≤ j - i → (inner l i j : Int) ≤ j - i - 2
  | 0, i, j, h, h2 => by omega
  | m + 1, i, j, h, h2 => by
    obtain ⟨c, h3, h4, h5⟩ := T.split i j h2
    have h6 := inner_le l i j c h5
    have h7 := (T.half i c (by omega) (fun h => T.bound m i c (by omega) h)).1
    have h8 := (T.half c j (by omega) (fun h => T.bound m c j (by omega) h)).1
    omega

def Full (l : List DG) (i j : Int) : Prop := 2 ≤ j - i ∧ (inner l i j : Int) = j - i - 2

theorem Tri.apex {n : Int} {l : List DG} (T : Tri n l) (i j : Int) (hf : Full l i j) :
    ∃ c, i < c ∧ c < j ∧ (c - i = 1 ∨ (hasD l i c = true ∧ Full l i c)) ∧ (j - c = 1 ∨ (hasD l c j = true ∧ Full l c j)) ∧
      ∀ d ∈ l, i ≤ d.f0 → d.f1 ≤ j → ¬ (d.f0 = i ∧ d.f1 = j) → d.f1 ≤ c ∨ c ≤ d.f0 := by
  obtain ⟨h2, hf⟩ := hf
  obtain ⟨c, h3, h4, h5⟩ := T.split i j h2
  have h6 := inner_le l i j c h5
  obtain ⟨h7, g7⟩ := T.half i c (by omega) (fun h => T.bound (c - i).toNat i c (by omega) h)
  obtain ⟨h8, g8⟩ := T.half c j (by omega) (fun h => T.bound (j - c).toNat c j (by omega) h)
  exact ⟨c, h3, h4, g7 (by omega), g8 (by omega), h5⟩

/-- Two corners are joined: by a side or by a diagonal. -/
def J (n : Int) (l : List DG) (a b : Int) : Prop := b = a + 1 ∨ (a = 0 ∧ b = n - 1) ∨ hasD l a b = true

theorem J.of {n : Int} {l : List DG} {a b : Int} {P : Prop} (h : b - a = 1 ∨ (hasD l a b = true ∧ P)) : J n l a b := by
  rcases h with h | h
  · exact .inl (by omega)
  · exact .inr (.inr h.1)

theorem Tri.reach {n : Int} {l : List DG} (T : Tri n l) : ∀ (m : Nat) (i j : Int), j - i ≤ m → Full l i j → 0 ≤ i → j ≤ n - 1 → J n l i j → ∀ d ∈ l, i ≤ d.f0 → d.f1 ≤ j → ¬ (d.f0 = i ∧ d.f1 = j) →
    (∃ c, d.f0 < c ∧ c < d.f1 ∧ J n l d.f0 c ∧ J n l c d.f1) ∧ ∃ o, 0 ≤ o ∧ o ≤ n - 1 ∧ ((o < d.f0 ∧ J n l o d.f0 ∧ J n l o d.f1) ∨ (d.f1 < o ∧ J n l d.f0 o ∧ J n l d.f1 o))
  | 0, i, j, h, hf, _, _, _, d, _, _, _, _ => by have := hf.1; omega
  | m + 1, i, j, h, hf, hi, hj, hJ, d, hd, h1, h2, h3 => by
    obtain ⟨c, c1, c2, c3, c4, c5⟩ := T.apex i j hf
    have hok := T.ok d hd
    rcases c5 d hd h1 h2 h3 with h4 | h4
    · rcases c3 with c3 | ⟨c3, f3⟩
      · omega
      · by_cases e : d.f0 = i ∧ d.f1 = c
        · obtain ⟨e1, e2⟩ := e
          obtain ⟨x, x1, x2, x3, x4, _⟩ := T.apex i c f3
          rw [e1, e2]
          exact ⟨⟨x, x1, x2, J.of x3, J.of x4⟩, j, by omega, hj, .inr ⟨by omega, hJ, J.of c4⟩⟩
        · exact T.reach m i c (by omega) f3 hi (by omega) (.inr (.inr c3)) d hd h1 h4 e
    · rcases c4 with c4 | ⟨c4, f4⟩
      · omega
      · by_cases e : d.f0 = c ∧ d.f1 = j
        · obtain ⟨e1, e2⟩ := e
          obtain ⟨x, x1, x2, x3, x4, _⟩ := T.apex c j f4
          rw [e1, e2]
          exact ⟨⟨x, x1, x2, J.of x3, J.of x4⟩, i, by omega, by omega, .inl ⟨by omega, J.of c3, hJ⟩⟩
        · exact T.reach m c j (by omega) f4 (by omega) hj (.inr (.inr c4)) d hd h4 h2 e

theorem Tri.jcross {n : Int} {l : List DG} (T : Tri n l) {a b c d : Int} (h1 : J n l a b) (h2 : J n l c d) (ha : 0 ≤ a) (hd : d ≤ n - 1) : ¬ (a < c ∧ c < b ∧ b < d) := by
  intro h
  rcases h1 with h1 | h1 | h1
  · omega
  · omega
  · rcases h2 with h2 | h2 | h2
    · omega
    · omega
    · obtain ⟨x, hx, x1, x2⟩ := hasD_mem h1
      obtain ⟨y, hy, y1, y2⟩ := hasD_mem h2
      exact T.nc x hx y hy (by omega)

/-- The two corners with which the ends of a diagonal are joined: one inside, one outside, and no other. -/
theorem Tri.two {n : Int} {l : List DG} (T : Tri n l) (d : DG) (hd : d ∈ l) : ∃ x o, d.f0 < x ∧ x < d.f1 ∧ 0 ≤ o ∧ o ≤ n - 1 ∧ (o < d.f0 ∨ d.f1 < o) ∧
    (J n l d.f0 x ∧ J n l x d.f1) ∧ (J n l (min o d.f0) (max o d.f0) ∧ J n l (min o d.f1) (max o d.f1)) ∧
    ∀ c, 0 ≤ c → c ≤ n - 1 → c ≠ d.f0 → c ≠ d.f1 → (J n l (min c d.f0) (max c d.f0) ∧ J n l (min c d.f1) (max c d.f1)) → c = x ∨ c = o := by
  have hok := T.ok d hd
  have hn := T.n3
  have hfull : Full l 0 (n - 1) := by
    refine ⟨by omega, ?_⟩
    have : inner l 0 (n - 1) = l.length := by
      unfold inner
      rw [List.countP_eq_length]
      intro e he
      have := T.ok e he
      rw [decide_eq_true_eq]
      omega
    rw [this, T.len]
    omega
  obtain ⟨⟨x, x1, x2, x3, x4⟩, o, o1, o2, o3⟩ := T.reach (n - 1).toNat 0 (n - 1) (by omega) hfull (by omega) (by omega) (.inr (.inl ⟨rfl, rfl⟩)) d hd (by omega) (by omega) (by omega)
  refine ⟨x, o, x1, x2, o1, o2, by omega, ⟨x3, x4⟩, ?_, ?_⟩
  · rcases o3 with ⟨h, h5, h6⟩ | ⟨h, h5, h6⟩
    · rw [Int.min_eq_left (by omega), Int.max_eq_right (by omega), Int.min_eq_left (by omega), Int.max_eq_right (by omega)]
      exact ⟨h5, h6⟩
    · rw [Int.min_eq_right (by omega), Int.max_eq_left (by omega), Int.min_eq_right (by omega), Int.max_eq_left (by omega)]
      exact ⟨h5, h6⟩
  · intro c c1 c2 c3 c4 ⟨j1, j2⟩
    by_cases hx : c = x
    · exact .inl hx
    · by_cases ho : c = o
      · exact .inr ho
      · exfalso
        by_cases hin : d.f0 < c ∧ c < d.f1
        · rw [Int.min_eq_right (by omega), Int.max_eq_left (by omega)] at j1
          rw [Int.min_eq_left (by omega), Int.max_eq_right (by omega)] at j2
          by_cases hlt : c < x
          · exact T.jcross x3 j2 (by omega) (by omega) (by omega)
          · exact T.jcross j1 x4 (by omega) (by omega) (by omega)
        · rcases o3 with ⟨h, h5, h6⟩ | ⟨h, h5, h6⟩
          · by_cases hc : c < d.f0
            · rw [Int.min_eq_left (by omega), Int.max_eq_right (by omega)] at j1
              rw [Int.min_eq_left (by omega), Int.max_eq_right (by omega)] at j2
              by_cases hlt : c < o
              · exact T.jcross j1 h6 (by omega) (by omega) (by omega)
              · exact T.jcross h5 j2 (by omega) (by omega) (by omega)
            · rw [Int.min_eq_right (by omega), Int.max_eq_left (by omega)] at j1
              exact T.jcross h6 j1 (by omega) (by omega) (by omega)
          · by_cases hc : c < d.f0
            · rw [Int.min_eq_left (by omega), Int.max_eq_right (by omega)] at j2
              exact T.jcross j2 h5 (by omega) (by omega) (by omega)
            · rw [Int.min_eq_right (by omega), Int.max_eq_left (by omega)] at j1
              rw [Int.min_eq_right (by omega), Int.max_eq_left (by omega)] at j2
              by_cases hlt : c < o
              · exact T.jcross j1 h6 (by omega) (by omega) (by omega)
              · exact T.jcross h5 j2 (by omega) (by omega) (by omega)

theorem pair_chain (l : List DG) (h : ∀ j, 0 < j → j < l.length → (rD l (j - 1)).f0 < (rD l j).f0 ∨ ((rD l (j - 1)).f0 = (rD l j).f0 ∧ (rD l (j - 1)).f1 < (rD l j).f1)) : l.Pairwise fun d e => d.f0 < e.f0 ∨ (d.f0 = e.f0 ∧ d.f1 < e.f1) := by
  induction l with
  | nil => exact List.Pairwise.nil
  | cons x l ih =>
    have h' := ih (fun j j1 j2 => by
      have := h (j + 1) (by omega) (by simpa using j2)
      rw [show j + 1 - 1 = (j - 1) + 1 by omega] at this
      simpa [rD, rd_T36] using this)
    refine List.pairwise_cons.2 ⟨?_, h'⟩
    intro y hy
    cases l with
    | nil => cases hy
    | cons z l =>
      have h0 := h 1 (by omega) (by simp)
      have h1 : x.f0 < z.f0 ∨ (x.f0 = z.f0 ∧ x.f1 < z.f1) := by simpa [rD, rd_T36] using h0
      rcases List.mem_cons.1 hy with e | e
      · rw [e]
        exact h1
      · have := (List.pairwise_cons.1 h').1 y e
        omega

theorem rD_get (l : List DG) (j : Nat) (h : j < l.length) : rD l j = l[j] := by
  unfold rD rd_T36
  rw [Int.toNat_natCast, List.getD_eq_getElem?_getD, List.getElem?_eq_getElem h]
  rfl

theorem tri_of (n : Int) (l : List DG) (h : isTriB n l = true) : Tri n l := by
  unfold isTriB goodD at h
  simp only [Bool.and_eq_true, decide_eq_true_eq, List.all_eq_true] at h
  obtain ⟨hn, hl, hs⟩ := h
  have hst : ∀ j, j < l.length → stepD n l j = true := fun j hj => hs j (List.mem_range'_1.2 ⟨by omega, by omega⟩)
  have hok : ∀ d ∈ l, 0 ≤ d.f0 ∧ d.f1 ≤ n - 1 ∧ 2 ≤ d.f1 - d.f0 ∧ d.f1 - d.f0 ≤ n - 2 := by
    intro d hd
    obtain ⟨j, hj, e⟩ := List.getElem_of_mem hd
    have h1 := hst j hj
    rw [stepD_def, rD_get l j hj, e] at h1
    simp only [Bool.and_eq_true, diagB, decide_eq_true_eq] at h1
    omega
  have hnc : ∀ (j : Nat) (hj : j < l.length) (i : Nat) (hi : i < j), crossB l[j].f0 l[j].f1 l[i].f0 l[i].f1 = false := by
    intro j hj i hi
    have h1 := hst j hj
    rw [stepD_def, rD_get l j hj] at h1
    simp only [Bool.and_eq_true, Bool.not_eq_true'] at h1
    have h2 := List.any_eq_false.1 h1.2.2 l[i] (by
      rw [List.mem_take_iff_getElem]
      exact ⟨i, by omega, rfl⟩)
    simpa using h2
  refine ⟨hn, hl, hok, ?_, pair_chain l ?_⟩
  · intro d hd e he hx
    obtain ⟨i, hi, e1⟩ := List.getElem_of_mem hd
    obtain ⟨j, hj, e2⟩ := List.getElem_of_mem he
    subst e1 e2
    rcases Nat.lt_trichotomy i j with h1 | h1 | h1
    · have := hnc j hj i h1
      simp only [crossB, Bool.or_eq_false_iff, decide_eq_false_iff_not] at this
      omega
    · subst h1
      omega
    · have := hnc i hi j h1
      simp only [crossB, Bool.or_eq_false_iff, decide_eq_false_iff_not] at this
      omega
  · intro j j1 j2
    have h1 := hst j j2
    rw [stepD_def] at h1
    have b0 : (j == 0) = false := by rw [beq_eq_false_iff_ne]; omega
    rw [b0] at h1
    simp only [Bool.and_eq_true, Bool.false_or, lessB, decide_eq_true_eq] at h1
    exact h1.2.1

structure NC (n : Int) (l : List DG) : Prop where
  ok : ∀ d ∈ l, 0 ≤ d.f0 ∧ d.f1 ≤ n - 1 ∧ 2 ≤ d.f1 - d.f0 ∧ d.f1 - d.f0 ≤ n - 2
  nc : ∀ d ∈ l, ∀ e ∈ l, ¬ (d.f0 < e.f0 ∧ e.f0 < d.f1 ∧ d.f1 < e.f1)
  sorted : l.Pairwise fun d e => d.f0 < e.f0 ∨ (d.f0 = e.f0 ∧ d.f1 < e.f1)
theorem NC.under_inner {n : Int} {l : List DG} (T : NC n l) (i j : Int) : under l i j ≤ inner l i j + if hasD l i j = true then 1 else 0 := by
  have h1 := cnt_split (fun d : DG => decide (i ≤ d.f0 ∧ d.f1 ≤ j)) (fun d : DG => decide (i ≤ d.f0 ∧ d.f1 ≤ j ∧ ¬ (d.f0 = i ∧ d.f1 = j))) (fun d : DG => decide (d.f0 = i ∧ d.f1 = j)) l (fun x _ h => by
    simp only [decide_eq_true_eq] at h ⊢
    omega)
  have h2 := cnt_one i j l T.sorted
  unfold under inner
  omega

theorem NC.half {n : Int} {l : List DG} (T : NC n l) (a b : Int) (h1 : 1 ≤ b - a) (ih : 2 ≤ b - a → (inner l a b : Int) ≤ b - a - 2) :
    (under l a b : Int) ≤ b - a - 1 ∧ ((under l a b : Int) = b - a - 1 → b - a = 1 ∨ (hasD l a b = true ∧ 2 ≤ b - a ∧ (inner l a b : Int) = b - a - 2)) := by
  by_cases h2 : 2 ≤ b - a
  · have h3 := ih h2
    have h4 := T.under_inner a b
    cases hh : hasD l a b
    · rw [hh, if_neg (by simp)] at h4
      exact ⟨by omega, fun _ => by omega⟩
    · rw [hh, if_pos rfl] at h4
      exact ⟨by omega, fun _ => .inr ⟨rfl, h2, by omega⟩⟩
  · have hz : under l a b = 0 := by
      apply cnt_zero
      intro d hd
      have := T.ok d hd
      rw [decide_eq_false_iff_not]
      omega
    rw [hz]
    exact ⟨by omega, fun _ => .inl (by omega)⟩

theorem NC.split {n : Int} {l : List DG} (T : NC n l) (i j : Int) (h : 2 ≤ j - i) :
    ∃ c, i < c ∧ c < j ∧ ∀ d ∈ l, i ≤ d.f0 → d.f1 ≤ j → ¬ (d.f0 = i ∧ d.f1 = j) → d.f1 ≤ c ∨ c ≤ d.f0 := by
  obtain ⟨c, h1, h2, h3, h4⟩ := last_of (fun c => c = i + 1 ∨ hasD l i c = true) (j - (i + 1)).toNat (i + 1) j (by omega) (by omega) (.inl rfl)
  refine ⟨c, by omega, h2, fun d hd h5 h6 h7 => ?_⟩
  by_cases h8 : d.f1 ≤ c
  · exact .inl h8
  · by_cases h9 : c ≤ d.f0
    · exact .inr h9
    · exfalso
      by_cases e : d.f0 = i
      · refine h4 d.f1 (by omega) (by omega) (.inr ?_)
        rw [← e]
        exact hasD_of hd
      · rcases h3 with h3 | h3
        · omega
        · obtain ⟨x, hx, hx1, hx2⟩ := hasD_mem h3
          exact T.nc x hx d hd (by omega)

theorem NC.bound {n : Int} {l : List DG} (T : NC n l) : ∀ (m : Nat) (i j : Int), j - i ≤ m → 2 ≤ j - i → (inner l i j : Int) ≤ j - i - 2
  | 0, i, j, h, h2 => by omega
  | m + 1, i, j, h, h2 => by
    obtain ⟨c, h3, h4, h5⟩ := T.split i j h2
    have h6 := inner_le l i j c h5
    have h7 := (T.half i c (by omega) (fun h => T.bound m i c (by omega) h)).1
    have h8 := (T.half c j (by omega) (fun h => T.bound m c j (by omega) h)).1
    omega

theorem cnt_join {α : Type} (p q r : α → Bool) : ∀ l : List α, (∀ x ∈ l, q x = true → p x = true ∧ r x = false) → (∀ x ∈ l, r x = true → p x = true) → l.countP q + l.countP r ≤ l.countP p
  | [], _, _ => by simp
  | x :: l, h1, h2 => by
    have ih := cnt_join p q r l (fun y hy => h1 y (List.mem_cons_of_mem _ hy)) (fun y hy => h2 y (List.mem_cons_of_mem _ hy))
    have a1 := h1 x (List.mem_cons_self ..)
    have a2 := h2 x (List.mem_cons_self ..)
    simp only [List.countP_cons]
    cases hp : p x <;> cases hq : q x <;> cases hr : r x <;> simp_all <;> omega
theorem NC.inner_all {n : Int} {l : List DG} (T : NC n l) : inner l 0 (n - 1) = l.length := by
  unfold inner
  rw [List.countP_eq_length]
  intro d hd
  have := T.ok d hd
  rw [decide_eq_true_eq]
  omega
theorem NC.most {n : Int} {l : List DG} (T : NC n l) (hn : 3 ≤ n) : (l.length : Int) ≤ n - 3 := by
  have h := T.bound (n - 1).toNat 0 (n - 1) (by omega) (by omega)
  rw [T.inner_all] at h
  omega
theorem inner_ge {n : Int} {l : List DG} (T : NC n l) (i j c : Int) (h1 : i < c) (h2 : c < j) : under l i c + under l c j ≤ inner l i j := by
  apply cnt_join
  · intro d hd h
    have := T.ok d hd
    simp only [decide_eq_true_eq, decide_eq_false_iff_not] at h ⊢
    omega
  · intro d hd h
    have := T.ok d hd
    simp only [decide_eq_true_eq] at h ⊢
    omega
theorem under_ge {l : List DG} (i j : Int) (h : hasD l i j = true) : inner l i j + 1 ≤ under l i j := by
  obtain ⟨d, hd, e1, e2⟩ := hasD_mem h
  have h1 := cnt_join (fun d : DG => decide (i ≤ d.f0 ∧ d.f1 ≤ j)) (fun d : DG => decide (i ≤ d.f0 ∧ d.f1 ≤ j ∧ ¬ (d.f0 = i ∧ d.f1 = j))) (fun d : DG => decide (d.f0 = i ∧ d.f1 = j)) l (fun x _ h => by
    simp only [decide_eq_true_eq, decide_eq_false_iff_not] at h ⊢
    omega) (fun x _ h => by
    simp only [decide_eq_true_eq] at h ⊢
    omega)
  have h2 : 0 < l.countP (fun d : DG => decide (d.f0 = i ∧ d.f1 = j)) := List.countP_pos_iff.2 ⟨d, hd, by simp [e1, e2]⟩
  unfold under inner
  omega
theorem NC.full {n : Int} {l : List DG} (T : NC n l) (nofree : ∀ a b : Int, 0 ≤ a → b ≤ n - 1 → 2 ≤ b - a → b - a ≤ n - 2 → (∀ e ∈ l, ¬ (a < e.f0 ∧ e.f0 < b ∧ b < e.f1) ∧ ¬ (e.f0 < a ∧ a < e.f1 ∧ e.f1 < b)) → hasD l a b = true) :
    ∀ (m : Nat) (i j : Int), j - i ≤ m → 2 ≤ j - i → 0 ≤ i → j ≤ n - 1 → ((i = 0 ∧ j = n - 1) ∨ hasD l i j = true) → j - i - 2 ≤ (inner l i j : Int)
  | 0, i, j, h, h2, _, _, _ => by omega
  | m + 1, i, j, h, h2, hi, hj, hJ => by
    obtain ⟨c, h1, hc, h3, h4⟩ := last_of (fun c => c = i + 1 ∨ hasD l i c = true) (j - (i + 1)).toNat (i + 1) j (by omega) (by omega) (.inl rfl)
    have hge := inner_ge T i j c (by omega) hc
    have hleft : c - i - 1 ≤ (under l i c : Int) := by
      by_cases e : c - i = 1
      · omega
      · rcases h3 with h3 | h3
        · omega
        · have := NC.full T nofree m i c (by omega) (by omega) hi (by omega) (.inr h3)
          have := under_ge i c h3
          omega
    have hright : j - c - 1 ≤ (under l c j : Int) := by
      by_cases e : j - c = 1
      · omega
      · have h5 : hasD l c j = true := by
          refine nofree c j (by omega) hj (by omega) (by omega) (fun e he => ?_)
          have hoe := T.ok e he
          constructor
          · rintro ⟨q1, q2, q3⟩
            rcases hJ with hJ | hJ
            · omega
            · obtain ⟨x, hx, hx1, hx2⟩ := hasD_mem hJ
              exact T.nc x hx e he (by omega)
          · rintro ⟨q1, q2, q3⟩
            by_cases e1 : e.f0 = i
            · refine h4 e.f1 (by omega) (by omega) (.inr ?_)
              rw [← e1]
              exact hasD_of he
            · by_cases e2 : e.f0 < i
              · rcases hJ with hJ | hJ
                · omega
                · obtain ⟨x, hx, hx1, hx2⟩ := hasD_mem hJ
                  exact T.nc e he x hx (by omega)
              · rcases h3 with h3 | h3
                · omega
                · obtain ⟨x, hx, hx1, hx2⟩ := hasD_mem h3
                  exact T.nc x hx e he (by omega)
        have := NC.full T nofree m c j (by omega) (by omega) (by omega) hj (.inr h5)
        have := under_ge c j h5
        omega
    omega
theorem NC.free {n : Int} {l : List DG} (T : NC n l) (hn : 3 ≤ n) (h : (l.length : Int) < n - 3) : ∃ a b : Int, 0 ≤ a ∧ b ≤ n - 1 ∧ 2 ≤ b - a ∧ b - a ≤ n - 2 ∧ hasD l a b = false ∧ ∀ e ∈ l, ¬ (a < e.f0 ∧ e.f0 < b ∧ b < e.f1) ∧ ¬ (e.f0 < a ∧ a < e.f1 ∧ e.f1 < b) := by
  apply Classical.byContradiction
  intro hno
  have := T.full (fun a b h1 h2 h3 h4 h5 => by
    cases hh : hasD l a b
    · exact absurd ⟨a, b, h1, h2, h3, h4, hh, h5⟩ hno
    · rfl) (n - 1).toNat 0 (n - 1) (by omega) (by omega) (by omega) (by omega) (.inl ⟨rfl, rfl⟩)
  rw [T.inner_all] at this
  omega
theorem Tri.nct {n : Int} {l : List DG} (T : Tri n l) : NC n l := ⟨T.ok, T.nc, T.sorted⟩
theorem NC.tri {n : Int} {l : List DG} (T : NC n l) (hn : 3 ≤ n ∧ n ≤ 12) (h : (l.length : Int) = n - 3) : Tri n l := ⟨hn, h, T.ok, T.nc, T.sorted⟩

theorem nc_of (n : Int) (l : List DG) (h : goodD n l = true) : NC n l := by
  unfold goodD at h
  simp only [List.all_eq_true] at h
  have hst : ∀ j, j < l.length → stepD n l j = true := fun j hj => h j (List.mem_range'_1.2 ⟨by omega, by omega⟩)
  have hok : ∀ d ∈ l, 0 ≤ d.f0 ∧ d.f1 ≤ n - 1 ∧ 2 ≤ d.f1 - d.f0 ∧ d.f1 - d.f0 ≤ n - 2 := by
    intro d hd
    obtain ⟨j, hj, e⟩ := List.getElem_of_mem hd
    have h1 := hst j hj
    rw [stepD_def, rD_get l j hj, e] at h1
    simp only [Bool.and_eq_true, diagB, decide_eq_true_eq] at h1
    omega
  have hnc : ∀ (j : Nat) (hj : j < l.length) (i : Nat) (hi : i < j), crossB l[j].f0 l[j].f1 l[i].f0 l[i].f1 = false := by
    intro j hj i hi
    have h1 := hst j hj
    rw [stepD_def, rD_get l j hj] at h1
    simp only [Bool.and_eq_true, Bool.not_eq_true'] at h1
    have h2 := List.any_eq_false.1 h1.2.2 l[i] (by
      rw [List.mem_take_iff_getElem]
      exact ⟨i, by omega, rfl⟩)
    simpa using h2
  refine ⟨hok, ?_, pair_chain l ?_⟩
  · intro d hd e he hx
    obtain ⟨i, hi, e1⟩ := List.getElem_of_mem hd
    obtain ⟨j, hj, e2⟩ := List.getElem_of_mem he
    subst e1 e2
    rcases Nat.lt_trichotomy i j with h1 | h1 | h1
    · have := hnc j hj i h1
      simp only [crossB, Bool.or_eq_false_iff, decide_eq_false_iff_not] at this
      omega
    · subst h1
      omega
    · have := hnc i hi j h1
      simp only [crossB, Bool.or_eq_false_iff, decide_eq_false_iff_not] at this
      omega
  · intro j j1 j2
    have h1 := hst j j2
    rw [stepD_def] at h1
    have b0 : (j == 0) = false := by rw [beq_eq_false_iff_ne]; omega
    rw [b0] at h1
    simp only [Bool.and_eq_true, Bool.false_or, lessB, decide_eq_true_eq] at h1
    exact h1.2.1
theorem good_of (n : Int) (l : List DG) (T : NC n l) : goodD n l = true := by
  unfold goodD
  rw [List.all_eq_true]
  intro j hj
  have hj2 := (List.mem_range'_1.1 hj).2
  rw [Nat.zero_add] at hj2
  rw [stepD_def, rD_get l j hj2]
  have hok := T.ok l[j] (List.getElem_mem _)
  rw [Bool.and_eq_true, Bool.and_eq_true]
  refine ⟨?_, ?_, ?_⟩
  · unfold diagB
    rw [decide_eq_true_eq]
    omega
  · by_cases h0 : j = 0
    · rw [Bool.or_eq_true]
      left
      rw [beq_iff_eq]
      exact h0
    · rw [Bool.or_eq_true]
      right
      rw [rD_get l (j - 1) (by omega)]
      have := List.pairwise_iff_getElem.1 T.sorted (j - 1) j (by omega) hj2 (by omega)
      unfold lessB
      rw [decide_eq_true_eq]
      exact this
  · rw [Bool.not_eq_true', List.any_eq_false]
    intro e he
    have hel : e ∈ l := List.mem_of_mem_take he
    have h1 := T.nc l[j] (List.getElem_mem _) e hel
    have h2 := T.nc e hel l[j] (List.getElem_mem _)
    simp only [crossB, Bool.or_eq_true, decide_eq_true_eq]
    omega

theorem flIn_rounds (l : List DG) (a b : Int) (hl : l.length ≤ 4611686018427387904) (e : Nat) : ∀ (i k : Nat), i + e = l.length → e < k →
    spec_flIn.l0 k l (l.length : Int) (i : Int) a b = some ((l.drop i).any fun d => d.f0 == a && d.f1 == b) := by
  induction e with
  | zero =>
    intro i k hi hk
    obtain ⟨k, rfl⟩ : ∃ q, k = q + 1 := ⟨k - 1, by omega⟩
    simp only [spec_flIn.l0]
    rw [if_neg (by omega), List.drop_of_length_le (by omega)]
    rfl
  | succ e ih =>
    intro i k hi hk
    obtain ⟨k, rfl⟩ : ∃ q, k = q + 1 := ⟨k - 1, by omega⟩
    simp only [spec_flIn.l0]
    rw [if_pos (by omega), if_pos (by omega), if_pos (by omega), wrap_succ i (by omega), ih (i + 1) k (by omega) (by omega), any_take_step _ l i (by omega)]
    cases ((rD l i).f0 == a && (rD l i).f1 == b) <;> simp
theorem flIn_tells (l : List DG) (a b : Int) (hl : l.length ≤ 4611686018427387904) (k : Nat) (hk : l.length < k) : spec_flIn.f k l a b = some (hasD l a b) :=
  flIn_rounds l a b hl l.length 0 k (by omega) hk


theorem contD_rounds (l : List DG) (a b : Int) (hl : l.length ≤ 4611686018427387904) (e : Nat) : ∀ (i k : Nat), i + e = l.length → e < k →
    ∃ r, impl_Diagonal_115.l0 k l (l.length : Int) (i : Int) a b = some r ∧ (r ≥ 0 ↔ ((l.drop i).any fun d => d.f0 == a && d.f1 == b) = true) := by
  induction e with
  | zero =>
    intro i k hi hk
    obtain ⟨k, rfl⟩ : ∃ q, k = q + 1 := ⟨k - 1, by omega⟩
    simp only [impl_Diagonal_115.l0]
    rw [if_neg (by omega), List.drop_of_length_le (by omega)]
    exact ⟨-1, rfl, by simp⟩
  | succ e ih =>
    intro i k hi hk
    obtain ⟨k, rfl⟩ : ∃ q, k = q + 1 := ⟨k - 1, by omega⟩
    obtain ⟨r, hr, hr2⟩ := ih (i + 1) k (by omega) (by omega)
    simp only [impl_Diagonal_115.l0]
    rw [if_pos (by omega), if_pos (by omega), if_pos (by omega), wrap_succ i (by omega), hr, any_take_step _ l i (by omega), BEq.comm (a := a), BEq.comm (a := b)]
    cases hc : ((rD l i).f0 == a && (rD l i).f1 == b) with
    | true => exact ⟨i, rfl, by simp⟩
    | false => exact ⟨r, rfl, by rw [Bool.false_or]; exact hr2⟩
theorem contD_tells (l : List DG) (a b : Int) (hl : l.length ≤ 4611686018427387904) (k : Nat) (hk : l.length < k) : impl_Diagonal_88.f k l a b = some (hasD l a b) := by
  obtain ⟨r, hr, hr2⟩ := contD_rounds l a b hl l.length 0 k (by omega) hk
  unfold impl_Diagonal_88.f impl_Diagonal_115.f
  rw [show ((0 : Nat) : Int) = 0 from rfl] at hr
  rw [hr, Option.bind_some]
  congr 1
  rw [Bool.eq_iff_iff, decide_eq_true_iff, hr2, List.drop_zero]
  rfl

theorem wrap_two (a : Nat) (h : a < 4611686018427387904) : wrap64 ((a : Int) + 2) = ((a + 2 : Nat) : Int) := by unfold wrap64; omega
def freeB (n : Int) (l : List DG) (a b : Int) : Bool := diagB n a b && (!hasD l a b && !l.any fun e => crossB a b e.f0 e.f1)
def F1 (n : Int) (l : List DG) (a : Nat) (b e : Nat) : List DG := ((List.range' b e).filter fun (b : Nat) => freeB n l a b).map fun (b : Nat) => ⟨(a : Int), (b : Int)⟩
def F0 (n : Int) (l : List DG) (N : Nat) (a e : Nat) : List DG := (List.range' a e).flatMap fun (a : Nat) => F1 n l a (a + 2) (N - (a + 2))
theorem F1_len (n : Int) (l : List DG) (a b e : Nat) : (F1 n l a b e).length ≤ e := by
  unfold F1
  rw [List.length_map]
  exact Nat.le_trans (List.length_filter_le ..) (by rw [List.length_range']; exact Nat.le_refl _)
theorem F0_len (n : Int) (l : List DG) (N : Nat) (h : N ≤ 12) (e : Nat) : ∀ a, (F0 n l N a e).length ≤ 12 * e := by
  induction e with
  | zero => intro a; simp [F0]
  | succ e ih =>
    intro a
    have h1 := ih (a + 1)
    have h2 := F1_len n l a (a + 2) (N - (a + 2))
    unfold F0 at h1 ⊢
    rw [List.range'_succ, List.flatMap_cons, List.length_append]
    omega
theorem free_l2 (n : Int) (l : List DG) (hl : l.length ≤ 100) (a b : Int) (acc : List DG) (hacc : acc.length ≤ 5000) (r : Option (List DG)) (e : Nat) :
    ∀ (i : Nat) (f : Bool) (K : Nat), i + e = l.length →
    (∀ k, K ≤ k → spec_cuFree.l1 k n l (if (f && !(l.drop i).any fun e => crossB a b e.f0 e.f1) = true then acc ++ [⟨a, b⟩] else acc) a (wrap64 (b + 1)) = r) →
    ∀ k, K + e < k → spec_cuFree.l2 k n l acc a b f l (l.length : Int) (i : Int) a b = r := by
  induction e with
  | zero =>
    intro i f K hi h k hk
    obtain ⟨k, rfl⟩ : ∃ q, k = q + 1 := ⟨k - 1, by omega⟩
    have hlt : acc.length < 8796093022208 := by omega
    rw [List.drop_of_length_le (by omega)] at h
    simp only [spec_cuFree.l2]
    rw [if_neg (by omega)]
    have h1 := h k (by omega)
    cases f with
    | true =>
      rw [if_pos rfl, if_pos hlt]
      simpa using h1
    | false =>
      rw [if_neg (by simp)]
      simpa using h1
  | succ e ih =>
    intro i f K hi h k hk
    obtain ⟨k, rfl⟩ : ∃ q, k = q + 1 := ⟨k - 1, by omega⟩
    rw [any_take_step _ l i (by omega)] at h
    simp only [spec_cuFree.l2]
    rw [if_pos (by omega), if_pos (by omega), if_pos (by omega), wrap_succ i (by omega)]
    cases f with
    | true =>
      rw [if_pos rfl, poCross_tells, Option.bind_some]
      refine ih (i + 1) _ K (by omega) ?_ k (by omega)
      intro k' hk'
      have := h k' hk'
      rw [Bool.true_and, Bool.not_or] at this
      exact this
    | false =>
      rw [if_neg (by simp)]
      refine ih (i + 1) _ K (by omega) ?_ k (by omega)
      intro k' hk'
      have := h k' hk'
      rw [Bool.false_and] at this ⊢
      exact this
theorem free_l1 (n : Int) (l : List DG) (hn : 3 ≤ n ∧ n ≤ 12) (hl : l.length ≤ 100) (a : Nat) (N : Nat) (hN : (N : Int) = n) (r : Option (List DG)) (e : Nat) :
    ∀ (b : Nat) (acc : List DG) (K : Nat), e = N - b → acc.length + e ≤ 4000 → (∀ k, K ≤ k → spec_cuFree.l0 k n l (acc ++ F1 n l a b e) (wrap64 ((a : Int) + 1)) = r) →
    ∀ k, K + (l.length + 10) * e + l.length + 10 < k → spec_cuFree.l1 k n l acc (a : Int) (b : Int) = r := by
  induction e with
  | zero =>
    intro b acc K he hacc h k hk
    obtain ⟨k, rfl⟩ : ∃ q, k = q + 1 := ⟨k - 1, by omega⟩
    simp only [spec_cuFree.l1]
    rw [if_neg (by omega)]
    have := h k (by omega)
    simpa [F1] using this
  | succ e ih =>
    intro b acc K he hacc h k hk
    have hm : (l.length + 10) * (e + 1) = (l.length + 10) * e + (l.length + 10) := by rw [Nat.mul_succ]
    obtain ⟨k, rfl⟩ : ∃ q, k = q + 1 := ⟨k - 1, by omega⟩
    obtain ⟨k, rfl⟩ : ∃ q, k = q + 1 := ⟨k - 1, by omega⟩
    have w : wrap64 ((b : Int) + 1) = ((b + 1 : Nat) : Int) := by unfold wrap64; omega
    have hF : F1 n l a b (e + 1) = (if freeB n l a b = true then [(⟨(a : Int), (b : Int)⟩ : DG)] else []) ++ F1 n l a (b + 1) e := by
      unfold F1
      rw [List.range'_succ, List.filter_cons]
      split <;> rfl
    have hfr : freeB n l a b = (diagB n a b && (!hasD l a b && !l.any fun e => crossB a b e.f0 e.f1)) := rfl
    have f1 := flIn_tells l (a : Int) (b : Int) (by omega) (k + 1) (by omega)
    have hskip : freeB n l a b = false → ∀ k, K + (l.length + 10) * e + l.length + 10 < k → spec_cuFree.l1 k n l acc (a : Int) (wrap64 ((b : Int) + 1)) = r := by
      intro hb k hk
      rw [w]
      refine ih (b + 1) acc K (by omega) (by omega) ?_ k hk
      intro k' hk'
      have := h k' hk'
      rw [hF, hb, if_neg (by simp), List.nil_append] at this
      exact this
    simp only [spec_cuFree.l1]
    rw [if_pos (by omega), poDiagonal_tells n _ _ hn, Option.bind_some]
    cases hd : diagB n a b with
    | false =>
      rw [if_neg (by simp)]
      simp only [spec_cuFree.j2, if_true]
      exact hskip (by rw [hfr, hd, Bool.false_and]) k (by omega)
    | true =>
      rw [if_pos rfl, f1, Option.bind_some]
      cases hh : hasD l a b with
      | true =>
        simp only [spec_cuFree.j2, if_true]
        exact hskip (by rw [hfr, hd, hh]; rfl) k (by omega)
      | false =>
        simp only [spec_cuFree.j2, Bool.false_eq_true, if_false]
        refine free_l2 n l hl (a : Int) (b : Int) acc (by omega) r l.length 0 true (K + (l.length + 10) * e + l.length + 11) (by omega) ?_ k (by omega)
        intro k' hk'
        rw [List.drop_zero, Bool.true_and]
        cases hc : l.any fun e => crossB a b e.f0 e.f1 with
        | true =>
          rw [Bool.not_true, if_neg (by simp)]
          exact hskip (by rw [hfr, hd, hh, hc]; rfl) k' (by omega)
        | false =>
          rw [Bool.not_false, if_pos rfl, w]
          refine ih (b + 1) _ K (by omega) (by rw [List.length_append, List.length_singleton]; omega) ?_ k' (by omega)
          intro k2 hk2
          have := h k2 hk2
          rw [hF, hfr, hd, hh, hc] at this
          simpa using this
theorem free_l0 (n : Int) (l : List DG) (hn : 3 ≤ n ∧ n ≤ 12) (hl : l.length ≤ 100) (N : Nat) (hN : (N : Int) = n) (e : Nat) :
    ∀ (a : Nat) (acc : List DG), a + e = N → acc.length + 12 * e ≤ 3000 → ∀ k, (20 * l.length + 200) * e + 10 < k → spec_cuFree.l0 k n l acc (a : Int) = some (acc ++ F0 n l N a e) := by
  induction e with
  | zero =>
    intro a acc he hacc k hk
    obtain ⟨k, rfl⟩ : ∃ q, k = q + 1 := ⟨k - 1, by omega⟩
    simp only [spec_cuFree.l0]
    rw [if_neg (by omega)]
    simp [F0]
  | succ e ih =>
    intro a acc he hacc k hk
    have hm : (20 * l.length + 200) * (e + 1) = (20 * l.length + 200) * e + (20 * l.length + 200) := by rw [Nat.mul_succ]
    obtain ⟨k, rfl⟩ : ∃ q, k = q + 1 := ⟨k - 1, by omega⟩
    have h12 : N - (a + 2) ≤ 12 := by omega
    have hmul : (l.length + 10) * (N - (a + 2)) ≤ (l.length + 10) * 12 := Nat.mul_le_mul_left _ h12
    have ha : a < 4611686018427387904 := by omega
    have w1 := wrap_succ a ha
    have w2 := wrap_two a ha
    have hF : F0 n l N a (e + 1) = F1 n l a (a + 2) (N - (a + 2)) ++ F0 n l N (a + 1) e := by
      unfold F0
      rw [List.range'_succ, List.flatMap_cons]
    have hlen := F1_len n l a (a + 2) (N - (a + 2))
    rw [hF, ← List.append_assoc]
    simp only [spec_cuFree.l0]
    rw [if_pos (by omega), w2]
    refine free_l1 n l hn hl a N hN _ (N - (a + 2)) (a + 2) acc ((20 * l.length + 200) * e + 11) rfl (by omega) ?_ k (by omega)
    intro k' hk'
    rw [w1]
    exact ih (a + 1) _ (by omega) (by rw [List.length_append]; omega) k' (by omega)
theorem cuFree_tells (n : Int) (l : List DG) (hn : 3 ≤ n ∧ n ≤ 12) (hl : l.length ≤ 100) (k : Nat) (hk : 30000 < k) : spec_cuFree.f k n l = some (F0 n l n.toNat 0 n.toNat) := by
  have hmul : (20 * l.length + 200) * n.toNat ≤ 2200 * 12 := Nat.mul_le_mul (by omega) (by omega)
  have h := free_l0 n l hn hl n.toNat (by omega) n.toNat 0 [] (by omega) (by simp; omega) k (by omega)
  rw [show ((0 : Nat) : Int) = 0 from rfl, List.nil_append] at h
  exact h
theorem F0_mem (n : Int) (l : List DG) (hn : 3 ≤ n ∧ n ≤ 12) (d : DG) : d ∈ F0 n l n.toNat 0 n.toNat ↔ freeB n l d.f0 d.f1 = true := by
  unfold F0 F1
  simp only [List.mem_flatMap, List.mem_map, List.mem_filter, List.mem_range'_1]
  constructor
  · rintro ⟨a, ha, b, ⟨hb, hf⟩, e⟩
    rw [← e]
    exact hf
  · intro h
    have hd : diagB n d.f0 d.f1 = true := by
      unfold freeB at h
      rw [Bool.and_eq_true] at h
      exact h.1
    unfold diagB at hd
    rw [decide_eq_true_eq] at hd
    refine ⟨d.f0.toNat, by omega, d.f1.toNat, ⟨by omega, ?_⟩, ?_⟩
    · rw [Int.toNat_of_nonneg (by omega), Int.toNat_of_nonneg (by omega)]
      exact h
    · rw [Int.toNat_of_nonneg (by omega), Int.toNat_of_nonneg (by omega)]

def A1 (n : Int) (a : Nat) (b e : Nat) : List DG := ((List.range' b e).filter fun (b : Nat) => diagB n a b).map fun (b : Nat) => ⟨(a : Int), (b : Int)⟩
def A0 (n : Int) (N : Nat) (a e : Nat) : List DG := (List.range' a e).flatMap fun (a : Nat) => A1 n a (a + 1) (N - (a + 1))
theorem A1_len (n : Int) (a b e : Nat) : (A1 n a b e).length ≤ e := by
  unfold A1
  rw [List.length_map]
  exact Nat.le_trans (List.length_filter_le ..) (by rw [List.length_range']; exact Nat.le_refl _)
theorem all_l1 (n : Int) (N : Nat) (hN : (N : Int) = n) (hn : 3 ≤ n ∧ n ≤ 12) (a : Nat) (r : Option (List DG)) (e : Nat) :
    ∀ (b : Nat) (acc : List DG) (K : Nat), b + e = N → acc.length + e ≤ 4000 → (∀ q, K ≤ q → impl_allDiagonals.l0 q n (acc ++ A1 n a b e) n (wrap64 ((a : Int) + 1)) = r) →
    ∀ q, K + e < q → impl_allDiagonals.l1 q n acc (a : Int) (b : Int) n (a : Int) = r := by
  induction e with
  | zero =>
    intro b acc K he hacc h q hq
    obtain ⟨q, rfl⟩ : ∃ z, q = z + 1 := ⟨q - 1, by omega⟩
    simp only [impl_allDiagonals.l1]
    rw [if_neg (by omega)]
    have := h q (by omega)
    simpa [A1] using this
  | succ e ih =>
    intro b acc K he hacc h q hq
    obtain ⟨q, rfl⟩ : ∃ z, q = z + 1 := ⟨q - 1, by omega⟩
    have hlt : acc.length < 8796093022208 := by omega
    have hA : A1 n a b (e + 1) = (if diagB n a b = true then [(⟨(a : Int), (b : Int)⟩ : DG)] else []) ++ A1 n a (b + 1) e := by
      unfold A1
      rw [List.range'_succ, List.filter_cons]
      split <;> rfl
    simp only [impl_allDiagonals.l1]
    rw [if_pos (by omega), isDiagonal_tells n _ _ hn, Option.bind_some, wrap_succ b (by omega)]
    cases hd : diagB n a b with
    | false =>
      rw [if_neg (by simp)]
      refine ih (b + 1) acc K (by omega) (by omega) ?_ q (by omega)
      intro q' hq'
      have := h q' hq'
      rw [hA, hd, if_neg (by simp), List.nil_append] at this
      exact this
    | true =>
      rw [if_pos rfl, if_pos hlt]
      refine ih (b + 1) _ K (by omega) (by rw [List.length_append, List.length_singleton]; omega) ?_ q (by omega)
      intro q' hq'
      have := h q' hq'
      rw [hA, hd] at this
      simpa using this
theorem all_l0 (n : Int) (N : Nat) (hN : (N : Int) = n) (hn : 3 ≤ n ∧ n ≤ 12) (e : Nat) :
    ∀ (a : Nat) (acc : List DG), a + e = N → acc.length + 12 * e ≤ 3000 → ∀ q, 20 * e < q → impl_allDiagonals.l0 q n acc n (a : Int) = some (acc ++ A0 n N a e) := by
  induction e with
  | zero =>
    intro a acc he hacc q hq
    obtain ⟨q, rfl⟩ : ∃ z, q = z + 1 := ⟨q - 1, by omega⟩
    simp only [impl_allDiagonals.l0]
    rw [if_neg (by omega)]
    have e0 : A0 n N a 0 = [] := rfl
    rw [e0, List.append_nil]
  | succ e ih =>
    intro a acc he hacc q hq
    obtain ⟨q, rfl⟩ : ∃ z, q = z + 1 := ⟨q - 1, by omega⟩
    have hA : A0 n N a (e + 1) = A1 n a (a + 1) (N - (a + 1)) ++ A0 n N (a + 1) e := by
      unfold A0
      rw [List.range'_succ, List.flatMap_cons]
    have hlen := A1_len n a (a + 1) (N - (a + 1))
    rw [hA, ← List.append_assoc]
    simp only [impl_allDiagonals.l0]
    rw [if_pos (by omega), wrap_succ a (by omega)]
    refine all_l1 n N hN hn a _ (N - (a + 1)) (a + 1) acc (20 * e + 1) (by omega) (by omega) ?_ q (by omega)
    intro q' hq'
    rw [wrap_succ a (by omega)]
    exact ih (a + 1) _ (by omega) (by rw [List.length_append]; omega) q' (by omega)
theorem allDiagonals_tells (n : Int) (hn : 3 ≤ n ∧ n ≤ 12) (k : Nat) (hk : 300 < k) : impl_allDiagonals.f k n = some (A0 n n.toNat 0 n.toNat) := by
  have h := all_l0 n n.toNat (by omega) hn n.toNat 0 [] (by omega) (by simp; omega) k (by omega)
  rw [show ((0 : Nat) : Int) = 0 from rfl, List.nil_append] at h
  exact h

theorem A0_free (n : Int) (l : List DG) (N : Nat) : (A0 n N 0 N).filter (fun x => !(hasD l x.f0 x.f1 || l.any fun e => crossB x.f0 x.f1 e.f0 e.f1)) = F0 n l N 0 N := by
  unfold A0 F0
  rw [List.filter_flatMap]
  congr 1
  funext a
  unfold A1 F1
  rw [List.filter_map, List.filter_filter]
  congr 1
  have key : ∀ b : Nat, (((fun x : DG => !(hasD l x.f0 x.f1 || l.any fun e => crossB x.f0 x.f1 e.f0 e.f1)) ∘ fun (b : Nat) => (⟨(a : Int), (b : Int)⟩ : DG)) b && diagB n a b) = freeB n l a b := by
    intro b
    unfold freeB
    simp only [Function.comp]
    rw [Bool.not_or, Bool.and_comm]
  simp only [key]
  by_cases h : a + 1 < N
  · rw [show N - (a + 1) = (N - (a + 2)) + 1 by omega, List.range'_succ, List.filter_cons, if_neg]
    unfold freeB diagB
    rw [decide_eq_false (by omega)]
    simp
  · rw [show N - (a + 1) = 0 by omega, show N - (a + 2) = 0 by omega]
    rfl
theorem freeDiagonals_tells (n : Int) (l : List DG) (hn : 3 ≤ n ∧ n ≤ 12) (hl : l.length ≤ 1000) (k : Nat) (hk : 2000 < k) : impl_freeDiagonals.f k n l = some (F0 n l n.toNat 0 n.toNat) := by
  have hp : ∀ x : DG, impl_freeDiagonals_1_s5.f k x.f0 x.f1 l = some (hasD l x.f0 x.f1 || l.any fun e => crossB x.f0 x.f1 e.f0 e.f1) := by
    intro x
    unfold impl_freeDiagonals_1_s5.f
    rw [contD_tells l _ _ (by omega) k (by omega), Option.bind_some]
    cases hasD l x.f0 x.f1 with
    | true => rfl
    | false =>
      rw [if_neg (by simp), crosses_tells _ _ _ (by omega) _ (by omega), Bool.false_or]
      rfl
  unfold impl_freeDiagonals.f
  rw [allDiagonals_tells n hn k (by omega), Option.bind_some]
  simp only [hp, Option.isSome_some, Option.getD_some]
  rw [if_pos (by simp), A0_free]

def ltD (x y : DG) : Prop := x.f0 < y.f0 ∨ (x.f0 = y.f0 ∧ x.f1 < y.f1)
def leD (x y : DG) : Prop := x.f0 < y.f0 ∨ (x.f0 = y.f0 ∧ x.f1 ≤ y.f1)
theorem leD_antisymm {x y : DG} (h1 : leD x y) (h2 : leD y x) : x = y := by
  obtain ⟨a, b⟩ := x
  obtain ⟨c, d⟩ := y
  unfold leD at h1 h2
  simp only at h1 h2
  have e1 : a = c := by omega
  have e2 : b = d := by omega
  rw [e1, e2]
theorem sorted_unique : ∀ {l m : List DG}, l.Perm m → l.Pairwise leD → m.Pairwise leD → l = m
  | [], m, h, _, _ => (List.Perm.nil_eq h)
  | x :: l, [], h, _, _ => by have := h.length_eq; simp at this
  | x :: l, y :: m, h, h1, h2 => by
    obtain ⟨a1, a2⟩ := List.pairwise_cons.1 h1
    obtain ⟨b1, b2⟩ := List.pairwise_cons.1 h2
    have e : x = y := by
      have hx : x ∈ y :: m := h.subset (List.mem_cons_self ..)
      have hy : y ∈ x :: l := h.symm.subset (List.mem_cons_self ..)
      rcases List.mem_cons.1 hx with hx | hx
      · exact hx
      · rcases List.mem_cons.1 hy with hy | hy
        · exact hy.symm
        · exact leD_antisymm (a1 y hy) (b1 x hx)
    rw [e] at h ⊢
    rw [sorted_unique (List.Perm.cons_inv h) a2 b2]
theorem sorted_ins {A B : List DG} {d : DG} (h : (A ++ B).Pairwise leD) (hA : ∀ x ∈ A, leD x d) (hB : ∀ x ∈ B, leD d x) : (A ++ d :: B).Pairwise leD := by
  rw [List.pairwise_append] at h ⊢
  obtain ⟨h1, h2, h3⟩ := h
  refine ⟨h1, List.pairwise_cons.2 ⟨hB, h2⟩, fun x hx y hy => ?_⟩
  rcases List.mem_cons.1 hy with e | e
  · rw [e]
    exact hA x hx
  · exact h3 x hx y e
theorem leD_trans {x y z : DG} (h1 : leD x y) (h2 : leD y z) : leD x z := by
  unfold leD at *
  omega
theorem rT_mid (A : List DG) (d : DG) (R : List DG) (i : Int) (hi : i = (A.length : Int)) : rd_T36 (A ++ d :: R) i = d := by
  unfold rd_T36
  rw [hi, Int.toNat_natCast, List.getD_eq_getElem?_getD]
  simp
/-- The reference's place for one: behind all that are less. -/
theorem ps_l1 (d : DG) (x8 : List DG) (x9 x10 : Int) (e : Nat) : ∀ (A B : List DG) (k : Nat), B.length = e → A.length + B.length ≤ 1000 → (A ++ B).Pairwise leD → (∀ x ∈ A, leD x d) → e + 2 < k →
    ∃ S k', k ≤ k' + e + 1 ∧ S.Pairwise leD ∧ S.Perm (d :: (A ++ B)) ∧ spec_poSorted.l1 k (A ++ B) (A.length : Int) x8 x9 x10 d.f0 d.f1 = spec_poSorted.l0 k' S x8 x9 (wrap64 (x10 + 1)) := by
  induction e with
  | zero =>
    intro A B k hB hl hs hA hk
    obtain ⟨k, rfl⟩ : ∃ q, k = q + 1 := ⟨k - 1, by omega⟩
    have : B = [] := List.length_eq_zero_iff.1 hB
    subst this
    rw [List.append_nil] at hs ⊢
    refine ⟨A ++ [d], k, by omega, sorted_ins (by simpa using hs) hA (by simp), by simpa using (List.perm_append_comm (l₁ := A) (l₂ := [d])), ?_⟩
    simp only [spec_poSorted.l1, Int.toNat_natCast, Option.bind_some, List.nil_append, List.take_length, List.drop_length, List.length_append, List.length_nil, List.length_singleton, List.append_nil]
    rw [if_neg (by omega), if_pos (by omega), if_pos (by omega), if_pos (by omega), if_pos (by omega), if_pos (by omega)]
  | succ e ih =>
    intro A B k hB hl hs hA hk
    obtain ⟨k, rfl⟩ : ∃ q, k = q + 1 := ⟨k - 1, by omega⟩
    cases B with
    | nil => simp at hB
    | cons z B =>
      rw [List.length_cons] at hB hl
      have w : wrap64 ((A.length : Int) + 1) = ((A ++ [z]).length : Int) := by
        rw [List.length_append, List.length_singleton]
        unfold wrap64
        omega
      have r1 : rd_T36 (A ++ z :: B) (A.length : Int) = z := rT_mid _ _ _ _ rfl
      have hlen : (A ++ z :: B).length = A.length + (B.length + 1) := by simp
      simp only [spec_poSorted.l1]
      rw [if_pos (by rw [hlen]; omega), if_pos (by omega), r1, poLess_tells, Option.bind_some, w]
      cases hc : lessB z.f0 z.f1 d.f0 d.f1
      · rw [if_neg (by simp)]
        have hdz : leD d z := by
          simp only [lessB, decide_eq_false_iff_not] at hc
          unfold leD
          omega
        refine ⟨A ++ d :: z :: B, k, by omega, sorted_ins hs hA ?_, List.perm_middle, ?_⟩
        · intro x hx
          rcases List.mem_cons.1 hx with e | e
          · rw [e]
            exact hdz
          · exact leD_trans hdz ((List.pairwise_cons.1 (List.pairwise_append.1 hs).2.1).1 x e)
        · have t1 : (A ++ z :: B).take A.length = A := by simp
          have t2 : (A ++ z :: B).drop A.length = z :: B := by simp
          simp only [Int.toNat_natCast, Option.bind_some, List.nil_append, t1, t2, List.length_append, List.length_nil, List.length_singleton, List.length_cons]
          rw [if_pos (by omega), if_pos (by omega), if_pos (by omega), if_pos (by omega)]
          simp
      · rw [if_pos rfl]
        have hzd : leD z d := by
          simp only [lessB, decide_eq_true_eq] at hc
          unfold leD
          omega
        have ea : A ++ z :: B = (A ++ [z]) ++ B := by simp
        rw [ea] at hs ⊢
        obtain ⟨S, k', h1, h2, h3, h4⟩ := ih (A ++ [z]) B k (by omega) (by rw [List.length_append, List.length_singleton]; omega) hs (by
          intro x hx
          rcases List.mem_append.1 hx with e | e
          · exact hA x e
          · rw [List.mem_singleton] at e
            rw [e]
            exact hzd) (by omega)
        exact ⟨S, k', by omega, h2, h3, h4⟩

theorem ps_l0 (x8 : List DG) (hx : x8.length ≤ 100) (e : Nat) : ∀ (i : Nat) (S : List DG) (k : Nat), i + e = x8.length → S.length = i → S.Pairwise leD → S.Perm (x8.take i) → 110 * e + 10 < k →
    ∃ r, spec_poSorted.l0 k S x8 (x8.length : Int) (i : Int) = some r ∧ r.Pairwise leD ∧ r.Perm x8 := by
  induction e with
  | zero =>
    intro i S k hi hS hs hp hk
    obtain ⟨k, rfl⟩ : ∃ q, k = q + 1 := ⟨k - 1, by omega⟩
    refine ⟨S, ?_, hs, ?_⟩
    · simp only [spec_poSorted.l0]
      rw [if_neg (by omega)]
    · rwa [List.take_of_length_le (by omega)] at hp
  | succ e ih =>
    intro i S k hi hS hs hp hk
    obtain ⟨k, rfl⟩ : ∃ q, k = q + 1 := ⟨k - 1, by omega⟩
    obtain ⟨S', k', h1, h2, h3, h4⟩ := ps_l1 (rD x8 i) x8 (x8.length : Int) (i : Int) S.length [] S k rfl (by simp; omega) (by simpa using hs) (by simp) (by omega)
    rw [wrap_succ i (by omega)] at h4
    have hlen : S'.length = i + 1 := by rw [h3.length_eq]; simp; omega
    have hp' : S'.Perm (x8.take (i + 1)) := by
      refine h3.trans ?_
      have e1 : x8.take (i + 1) = x8.take i ++ [rD x8 i] := by
        rw [List.take_succ_eq_append_getElem (by omega)]
        congr 2
        unfold rD rd_T36
        rw [Int.toNat_natCast, List.getD_eq_getElem?_getD, List.getElem?_eq_getElem (by omega)]
        rfl
      rw [e1, List.nil_append]
      exact (List.Perm.cons _ hp).trans (List.perm_append_comm (l₁ := [rD x8 i]))
    obtain ⟨r, g1, g2, g3⟩ := ih (i + 1) S' k' (by omega) hlen h2 hp' (by omega)
    refine ⟨r, ?_, g2, g3⟩
    simp only [spec_poSorted.l0]
    rw [if_pos (by omega), if_pos (by omega), if_pos (by omega)]
    rw [← g1, ← h4]
    rfl

theorem poSorted_tells (l : List DG) (h : l.length ≤ 100) (k : Nat) (hk : 11010 < k) : ∃ r, spec_poSorted.f k l = some r ∧ r.Pairwise leD ∧ r.Perm l :=
  ps_l0 l h l.length 0 [] k (by omega) rfl List.Pairwise.nil (by simp) (by omega)

theorem cmpD_neg (a b c d : Int) : cmpD a b c d < 0 ↔ lessB a b c d = true := by
  have := cmpD_nonneg a b c d
  cases h : lessB a b c d
  · rw [h] at this
    simp only [true_iff, iff_true] at this
    simp only [Bool.false_eq_true, iff_false]
    omega
  · rw [h] at this
    simp only [Bool.true_eq_false, iff_false] at this
    simp only [iff_true]
    omega
theorem swap_set (A : List DG) (z d : DG) (R : List DG) : ((A ++ z :: d :: R).set (A.length + 1) z).set A.length d = A ++ d :: z :: R := by
  induction A with
  | nil => rfl
  | cons x A ih => simpa using ih

theorem ins_l1 (n : Int) (d : DG) (C : List DG) (m : Nat) : ∀ (A B : List DG) (k : Nat) (i : Nat), A.length = m → (A ++ B).Pairwise leD → (∀ x ∈ B, leD d x) → i = A.length + B.length → i ≤ 1000 → m + 8 < k →
    ∃ S k', k ≤ k' + m + 1 ∧ S.Pairwise leD ∧ S.Perm (A ++ d :: B) ∧ impl_Diagonal_126_s3.l1 k (A ++ d :: (B ++ C)) 0 n (i : Int) (m : Int) = impl_Diagonal_126_s3.l0 k' (S ++ C) 0 n ((i : Int) + 1) := by
  induction m with
  | zero =>
    intro A B k i hA hs hB hi hi2 hk
    obtain ⟨k, rfl⟩ : ∃ q, k = q + 1 := ⟨k - 1, by omega⟩
    have : A = [] := List.length_eq_zero_iff.1 hA
    subst this
    have w : wrap64 ((i : Int) + 1) = (i : Int) + 1 := by unfold wrap64; omega
    refine ⟨d :: B, k, by omega, sorted_ins hs (by simp) hB, List.Perm.refl _, ?_⟩
    simp only [impl_Diagonal_126_s3.l1]
    rw [if_neg (by omega), w]
    rfl
  | succ m ih =>
    intro A B k i hA hs hB hi hi2 hk
    obtain ⟨k, rfl⟩ : ∃ q, k = q + 1 := ⟨k - 1, by omega⟩
    rcases List.eq_nil_or_concat A with e | ⟨A', z, e⟩
    · subst e
      simp at hA
    · rw [List.concat_eq_append] at e
      subst e
      rw [List.length_append, List.length_singleton] at hA hi
      have w0 : wrap64 ((i : Int) + 1) = (i : Int) + 1 := by unfold wrap64; omega
      have w1 : wrap64 (((m + 1 : Nat) : Int) - 1) = (m : Int) := by unfold wrap64; omega
      have el : A' ++ [z] ++ d :: (B ++ C) = A' ++ z :: d :: (B ++ C) := by simp
      have r1 : rd_T36 (A' ++ z :: d :: (B ++ C)) ((m + 1 : Nat) : Int) = d := by
        rw [← el]
        exact rT_mid _ _ _ _ (by rw [List.length_append, List.length_singleton]; omega)
      have r2 : rd_T36 (A' ++ z :: d :: (B ++ C)) (m : Int) = z := rT_mid _ _ _ _ (by omega)
      have hlen : (A' ++ z :: d :: (B ++ C)).length = A'.length + (B.length + C.length + 2) := by simp
      rw [el]
      simp only [impl_Diagonal_126_s3.l1]
      rw [if_pos (by omega), if_pos (by omega), if_pos (by rw [hlen]; omega), w1, if_pos (by omega), if_pos (by rw [hlen]; omega), r1, r2, compareDiagonals_tells _ _ _ _ k (by omega), Option.bind_some, w0]
      by_cases hc : cmpD d.f0 d.f1 z.f0 z.f1 < 0
      · rw [if_pos hc]
        have hlt := (cmpD_neg _ _ _ _).1 hc
        simp only [lessB, decide_eq_true_eq] at hlt
        have hsw : ((A' ++ z :: d :: (B ++ C)).set ((m + 1 : Nat) : Int).toNat ⟨z.f0, z.f1⟩).set (m : Int).toNat ⟨d.f0, d.f1⟩ = A' ++ d :: ((z :: B) ++ C) := by
          rw [Int.toNat_natCast, Int.toNat_natCast, show m = A'.length by omega]
          exact swap_set A' z d (B ++ C)
        rw [hsw]
        rw [List.append_assoc] at hs
        obtain ⟨S, k', h1, h2, h3, h4⟩ := ih A' (z :: B) k i (by omega) (by simpa using hs) (by
          intro x hx
          have hdz : leD d z := by unfold leD; omega
          rcases List.mem_cons.1 hx with e | e
          · rw [e]
            exact hdz
          · exact hB x e) (by simp; omega) hi2 (by omega)
        refine ⟨S, k', by omega, h2, h3.trans ?_, h4⟩
        have : (A' ++ [z] ++ d :: B) = A' ++ z :: d :: B := by simp
        rw [this]
        exact List.Perm.append_left A' (List.Perm.swap z d B)
      · rw [if_neg hc]
        have hzd : leD z d := by
          have := mt (cmpD_neg _ _ _ _).2 hc
          simp only [lessB, decide_eq_true_eq] at this
          unfold leD
          omega
        refine ⟨A' ++ [z] ++ d :: B, k, by omega, ?_, List.Perm.refl _, ?_⟩
        · refine sorted_ins hs (fun x hx => ?_) hB
          rcases List.mem_append.1 hx with e | e
          · have h5 := (List.pairwise_append.1 (List.pairwise_append.1 hs).1).2.2 x e z (by simp)
            exact leD_trans h5 hzd
          · rw [List.mem_singleton] at e
            rw [e]
            exact hzd
        · simp

theorem ins_l0 (n : Nat) (hn : n ≤ 12) (C : List DG) : ∀ (S : List DG) (k : Nat), S.Pairwise leD → 0 < S.length → S.length + C.length = n → 25 * C.length + 25 < k →
    ∃ r, impl_Diagonal_126_s3.l0 k (S ++ C) 0 (n : Int) (S.length : Int) = some r ∧ r.Pairwise leD ∧ r.Perm (S ++ C) := by
  induction C with
  | nil =>
    intro S k hs h0 hl hk
    obtain ⟨k, rfl⟩ : ∃ q, k = q + 1 := ⟨k - 1, by omega⟩
    refine ⟨S, ?_, hs, by simp⟩
    simp only [impl_Diagonal_126_s3.l0, List.append_nil]
    rw [if_neg (by simp at hl; omega)]
  | cons d C ih =>
    intro S k hs h0 hl hk
    rw [List.length_cons] at hl hk
    obtain ⟨k, rfl⟩ : ∃ q, k = q + 1 := ⟨k - 1, by omega⟩
    obtain ⟨S', k', h1, h2, h3, h4⟩ := ins_l1 (n : Int) d C S.length S [] k S.length rfl (by simpa using hs) (by simp) (by simp) (by omega) (by omega)
    have hlen : S'.length = S.length + 1 := by rw [h3.length_eq]; simp
    obtain ⟨r, g1, g2, g3⟩ := ih S' k' h2 (by omega) (by omega) (by omega)
    refine ⟨r, ?_, g2, g3.trans ?_⟩
    · simp only [impl_Diagonal_126_s3.l0]
      rw [if_pos (by omega)]
      rw [show (S'.length : Int) = (S.length : Int) + 1 by omega] at g1
      rw [← g1, ← h4]
      simp
    · have := List.Perm.append_right C h3
      simpa using this

theorem len12 (k : Nat) (L : Nat) (h : L ≤ 12) : ∃ r, bits_Len.f (k + 1) (IntKind.u64.wrap (L : Int)) = some r := by
  have : L = 0 ∨ L = 1 ∨ L = 2 ∨ L = 3 ∨ L = 4 ∨ L = 5 ∨ L = 6 ∨ L = 7 ∨ L = 8 ∨ L = 9 ∨ L = 10 ∨ L = 11 ∨ L = 12 := by omega
  rcases this with rfl | rfl | rfl | rfl | rfl | rfl | rfl | rfl | rfl | rfl | rfl | rfl | rfl <;> exact ⟨_, rfl⟩

theorem sortFunc_tells (l : List DG) (h : l.length ≤ 12) (k : Nat) (hk : 400 < k) : ∃ r, impl_Diagonal_114_s4.f k l = some r ∧ r.Pairwise leD ∧ r.Perm l := by
  obtain ⟨k, rfl⟩ : ∃ q, k = q + 1 := ⟨k - 1, by omega⟩
  obtain ⟨q, hq⟩ := len12 k l.length h
  have w : wrap64 (0 + 1) = 1 := by unfold wrap64; omega
  unfold impl_Diagonal_114_s4.f impl_Diagonal_123.f
  rw [hq]
  simp only [Option.bind_some]
  rw [if_pos (by omega)]
  unfold impl_Diagonal_126_s3.f
  rw [w]
  cases l with
  | nil =>
    refine ⟨[], ?_, List.Pairwise.nil, List.Perm.refl _⟩
    rfl
  | cons d C =>
    obtain ⟨r, g1, g2, g3⟩ := ins_l0 (C.length + 1) h C [d] (k + 1) (by simp) (by simp) (by simp; omega) (by simp at h; omega)
    refine ⟨r, ?_, g2, g3⟩
    have e : impl_Diagonal_126_s3.l0 (k + 1) (d :: C) 0 ((d :: C).length : Int) 1 = some r := g1
    rw [e]
    rfl


theorem cut_nc (n : Int) (l : List DG) (h : isCutB n l = true) : (3 ≤ n ∧ n ≤ 12) ∧ (l.length : Int) ≤ n - 3 ∧ NC n l := by
  unfold isCutB at h
  simp only [Bool.and_eq_true, decide_eq_true_eq] at h
  exact ⟨h.1, h.2.1, nc_of n l h.2.2⟩
theorem cut_of (n : Int) (l : List DG) (hn : 3 ≤ n ∧ n ≤ 12) (T : NC n l) : isCutB n l = true := by
  have := T.most hn.1
  unfold isCutB
  rw [good_of n l T, decide_eq_true hn, decide_eq_true this]
  rfl
theorem add_cut (n : Int) (C : List DG) (hC : isCutB n C = true) (a b : Int) (r : List DG) (r1 : r.Pairwise leD) (r2 : r.Perm (C ++ [⟨a, b⟩])) : isCutB n r = freeB n C a b := by
  obtain ⟨hn, hlen, hN⟩ := cut_nc n C hC
  rw [Bool.eq_iff_iff]
  constructor
  · intro h
    obtain ⟨_, _, T⟩ := cut_nc n r h
    have hd : (⟨a, b⟩ : DG) ∈ r := r2.symm.subset (by simp)
    have hok := T.ok _ hd
    simp only at hok
    unfold freeB
    rw [Bool.and_eq_true, Bool.and_eq_true]
    refine ⟨by unfold diagB; rw [decide_eq_true_eq]; omega, ?_, ?_⟩
    · rw [Bool.not_eq_true', Bool.eq_false_iff]
      intro hh
      obtain ⟨z, hz, e1, e2⟩ := hasD_mem hh
      have hnd : r.Pairwise fun y z => y ≠ z := T.sorted.imp (fun {y z} hyz h => by rw [h] at hyz; omega)
      have hnd2 : (C ++ [(⟨a, b⟩ : DG)]).Pairwise fun y z => y ≠ z := (r2.pairwise_iff (fun h => Ne.symm h)).1 hnd
      rw [List.pairwise_append] at hnd2
      refine hnd2.2.2 z hz ⟨a, b⟩ (by simp) ?_
      rw [← e1, ← e2]
    · rw [Bool.not_eq_true', List.any_eq_false]
      intro e he
      have her : e ∈ r := r2.symm.subset (List.mem_append_left _ he)
      have h1 := T.nc _ hd e her
      have h2 := T.nc e her _ hd
      simp only [crossB, Bool.or_eq_true, decide_eq_true_eq] at h1 h2 ⊢
      omega
  · intro h
    unfold freeB at h
    rw [Bool.and_eq_true, Bool.and_eq_true, Bool.not_eq_true', Bool.not_eq_true', List.any_eq_false] at h
    obtain ⟨h1, h2, h3⟩ := h
    unfold diagB at h1
    rw [decide_eq_true_eq] at h1
    refine cut_of n r hn ⟨?_, ?_, ?_⟩
    · intro d hd
      rcases List.mem_append.1 (r2.subset hd) with h | h
      · exact hN.ok d h
      · rw [List.mem_singleton.1 h]
        simp only
        omega
    · intro d hd e he
      rcases List.mem_append.1 (r2.subset hd) with h | h
      · rcases List.mem_append.1 (r2.subset he) with h' | h'
        · exact hN.nc d h e h'
        · have := h3 d h
          rw [List.mem_singleton.1 h']
          simp only [crossB, Bool.or_eq_true, decide_eq_true_eq] at this ⊢
          omega
      · rcases List.mem_append.1 (r2.subset he) with h' | h'
        · have := h3 e h'
          rw [List.mem_singleton.1 h]
          simp only [crossB, Bool.or_eq_true, decide_eq_true_eq] at this ⊢
          omega
        · rw [List.mem_singleton.1 h, List.mem_singleton.1 h']
          simp only
          omega
    · have hnd : (C ++ [(⟨a, b⟩ : DG)]).Pairwise fun y z => y ≠ z := by
        rw [List.pairwise_append]
        refine ⟨hN.sorted.imp (fun {y z} hyz h => by rw [h] at hyz; omega), List.pairwise_singleton _ _, ?_⟩
        intro y hy z hz h
        rw [List.mem_singleton.1 hz] at h
        rw [Bool.eq_false_iff] at h2
        refine h2 ?_
        have := hasD_of hy
        rw [h] at this
        exact this
      have hnd2 : r.Pairwise fun y z => y ≠ z := (r2.pairwise_iff (fun h => Ne.symm h)).2 hnd
      refine (r1.and hnd2).imp ?_
      rintro ⟨y0, y1⟩ ⟨z0, z1⟩ ⟨q1, q2⟩
      unfold leD at q1
      simp only at q1 ⊢
      by_cases h : y0 = z0 ∧ y1 = z1
      · exact absurd (by rw [h.1, h.2]) q2
      · omega

def conv36 (x : S35) : S36 := ⟨x.f0, x.f1⟩
theorem toS36_rounds (x0 : List S35) (hl : x0.length ≤ 1048576) (d : Nat) : ∀ (i k : Nat) (x3 : List S36), x3.length = x0.length → i + d = x0.length → d < k →
    laws_toDiagonalS.l0 k x0 x3 (i : Int) = some (x3.take i ++ (x0.drop i).map conv36) := by
  induction d with
  | zero =>
    intro i k x3 h3 hi hk
    obtain ⟨k, rfl⟩ : ∃ m, k = m + 1 := ⟨k - 1, by omega⟩
    simp only [laws_toDiagonalS.l0]
    rw [if_neg (by omega), List.drop_of_length_le (by omega), List.take_of_length_le (by omega), List.map_nil, List.append_nil]
  | succ d ih =>
    intro i k x3 h3 hi hk
    obtain ⟨k, rfl⟩ : ∃ m, k = m + 1 := ⟨k - 1, by omega⟩
    simp only [laws_toDiagonalS.l0, laws_toDiagonal.f, Option.bind_some]
    rw [if_pos (by omega), if_pos (by omega), if_pos (by omega), wrap_succ i (by omega), ih (i + 1) k _ (by rw [List.length_set]; exact h3) (by omega) (by omega), Int.toNat_natCast, take_set_succ _ _ _ (by omega), getD_drop x0 z35 i (by omega), List.map_cons]
    simp [rd_T35, conv36]
theorem toS36_tells (x0 : List S35) (hl : x0.length ≤ 1048576) : Ev (fun k => laws_toDiagonalS.f k x0) (x0.map conv36) := by
  refine ⟨x0.length + 1, fun k hk => ?_⟩
  show laws_toDiagonalS.f k x0 = _
  unfold laws_toDiagonalS.f
  rw [if_pos (by omega), if_pos (by omega), Int.toNat_natCast]
  have h := toS36_rounds x0 hl x0.length 0 k (List.replicate x0.length z36) (by simp) (by omega) (by omega)
  simpa using h
theorem eqS36_rounds (l : List S36) (hl : l.length ≤ 4611686018427387904) (d : Nat) : ∀ (i k : Nat), i + d = l.length → d < k → laws_eqDiagonalS.l0 k l l (i : Int) = some true := by
  induction d with
  | zero =>
    intro i k hi hk
    obtain ⟨k, rfl⟩ : ∃ m, k = m + 1 := ⟨k - 1, by omega⟩
    simp only [laws_eqDiagonalS.l0]
    rw [if_neg (by omega)]
  | succ d ih =>
    intro i k hi hk
    obtain ⟨k, rfl⟩ : ∃ m, k = m + 1 := ⟨k - 1, by omega⟩
    simp only [laws_eqDiagonalS.l0, laws_eqDiagonal.f, if_true, Option.bind_some]
    rw [if_pos (by omega), if_pos (by omega), if_pos (by omega), wrap_succ i (by omega)]
    exact ih (i + 1) k (by omega) (by omega)
theorem eqS36_tells (l : List S36) (hl : l.length ≤ 4611686018427387904) : Ev (fun k => laws_eqDiagonalS.f k l l) true := by
  refine ⟨l.length + 1, fun k hk => ?_⟩
  show laws_eqDiagonalS.f k l l = _
  unfold laws_eqDiagonalS.f
  rw [if_pos rfl]
  exact eqS36_rounds l hl l.length 0 k (by omega) (by omega)
theorem sz36_tells (l : List S35) (n : Int) (h0 : 0 ≤ n) (h1 : n ≤ 1048576) (hl : l.length ≤ 4611686018427387904) : laws_szDiagonalS.f l n = some (if n - (l.length : Int) < 0 then -1 else n - (l.length : Int)) := by
  unfold laws_szDiagonalS.f
  have w : wrap64 (n - (l.length : Int)) = n - (l.length : Int) := by unfold wrap64; omega
  rw [w]
  split <;> rfl
theorem sz36_any (l : List S35) (n : Int) (h0 : 0 ≤ n) (h1 : n ≤ 1048576) (hl : l.length ≤ maxLen) : ∃ r, laws_szDiagonalS.f l n = some r ∧ (r < 0 ∨ (0 ≤ r ∧ r = n - (l.length : Int))) := by
  unfold maxLen at hl
  unfold laws_szDiagonalS.f
  by_cases h : wrap64 (n - (l.length : Int)) < 0
  · rw [if_pos h]
    exact ⟨_, rfl, .inl (by omega)⟩
  · rw [if_neg h]
    have w : wrap64 (n - (l.length : Int)) = n - (l.length : Int) := by unfold wrap64 at h ⊢; omega
    exact ⟨_, rfl, .inr ⟨by omega, w⟩⟩

def iota36 : Int → Nat → List S36
  | _, 0 => []
  | v, m + 1 => ⟨v, v + 1⟩ :: iota36 (v + 2) m
theorem iota36_len : ∀ (m : Nat) (v : Int), (iota36 v m).length = m
  | 0, _ => rfl
  | m + 1, v => by rw [iota36, List.length_cons, iota36_len m]
theorem mark36_rounds (l : List S36) (hl : l.length ≤ 1048576) (e : Nat) : ∀ (i k : Nat) (P R : List S36) (v0 v : Int), P.length = i → R.length = e → i + e = l.length → 0 ≤ v0 → v0 ≤ 100000000 → v = v0 + 2 * (i : Int) → e < k →
    laws_markDiagonalS.l0 k (P ++ R) v (i : Int) = some (v0 + 2 * (l.length : Int), P ++ iota36 v e) := by
  induction e with
  | zero =>
    intro i k P R v0 v hP hR hi h00 h01 hv hk
    obtain ⟨k, rfl⟩ : ∃ q, k = q + 1 := ⟨k - 1, by omega⟩
    have : R = [] := List.length_eq_zero_iff.1 hR
    subst this
    simp only [laws_markDiagonalS.l0, List.append_nil, iota36]
    rw [if_neg (by omega), hv, show i = l.length by omega]
  | succ e ih =>
    intro i k P R v0 v hP hR hi h00 h01 hv hk
    obtain ⟨k, rfl⟩ : ∃ q, k = q + 1 := ⟨k - 1, by omega⟩
    cases R with
    | nil => simp at hR
    | cons x R =>
      rw [List.length_cons] at hR
      have w1 : wrap64 (v + 1) = v + 1 := by unfold wrap64; omega
      have w2 : wrap64 (v + 1 + 1) = v + 2 := by unfold wrap64; omega
      have s1 : ∀ y z : S36, (P ++ y :: R).set i z = P ++ z :: R := by
        intro y z
        rw [List.set_append_right _ _ (by omega), hP, Nat.sub_self]
        rfl
      have r1 : ∀ y : S36, rd_T36 (P ++ y :: R) (i : Int) = y := by
        intro y
        unfold rd_T36
        rw [Int.toNat_natCast, List.getD_eq_getElem?_getD, ← hP]
        simp
      simp only [laws_markDiagonalS.l0, Int.toNat_natCast, Option.bind_some, s1, r1, w1, w2]
      rw [if_pos (by rw [List.length_append, List.length_cons]; omega), if_pos (by omega), wrap_succ i (by omega)]
      have h := ih (i + 1) k (P ++ [⟨v, v + 1⟩]) R v0 (v + 2) (by rw [List.length_append, List.length_singleton]; omega) (by omega) (by omega) h00 h01 (by omega) (by omega)
      rw [iota36]
      simpa using h
theorem mark36_any (l : List S36) (hl : l.length ≤ 1048576) (v : Int) (h0 : 0 ≤ v) (h1 : v ≤ 100000000) (k : Nat) (hk : l.length < k) : laws_markDiagonalS.f k l v = some (v + 2 * (l.length : Int), iota36 v l.length) := by
  have h := mark36_rounds l hl l.length 0 k [] l v v rfl rfl (by omega) h0 h1 (by omega) hk
  unfold laws_markDiagonalS.f
  simpa using h
theorem mark36_tells (l : List S36) (hl : l.length ≤ 1048576) (k : Nat) (hk : l.length < k) : laws_markDiagonalS.f k l 1 = some (1 + 2 * (l.length : Int), iota36 1 l.length) :=
  mark36_any l hl 1 (by omega) (by omega) k hk

theorem held36_rounds (L : Nat) (hl : L ≤ 1048576) (e : Nat) : ∀ (i k : Nat) (P : List S36) (v : Int), P.length = i → i + e = L → v = 1 + 2 * (i : Int) → e < k →
    laws_heldDiagonalS.l0 k (P ++ iota36 v e) v (i : Int) = some (1 + 2 * (L : Int)) := by
  induction e with
  | zero =>
    intro i k P v hP hi hv hk
    obtain ⟨k, rfl⟩ : ∃ q, k = q + 1 := ⟨k - 1, by omega⟩
    simp only [laws_heldDiagonalS.l0, iota36, List.append_nil]
    rw [if_neg (by omega), hv, show i = L by omega]
  | succ e ih =>
    intro i k P v hP hi hv hk
    obtain ⟨k, rfl⟩ : ∃ q, k = q + 1 := ⟨k - 1, by omega⟩
    have w1 : wrap64 (v + 1) = v + 1 := by unfold wrap64; omega
    have w2 : wrap64 (v + 1 + 1) = v + 2 := by unfold wrap64; omega
    have r1 : rd_T36 (P ++ iota36 v (e + 1)) (i : Int) = ⟨v, v + 1⟩ := by
      unfold rd_T36
      rw [Int.toNat_natCast, List.getD_eq_getElem?_getD, ← hP, iota36]
      simp
    simp only [laws_heldDiagonalS.l0, r1, w1, w2, if_true]
    rw [if_pos (by rw [List.length_append, iota36_len]; omega), if_pos (by omega), wrap_succ i (by omega)]
    have h := ih (i + 1) k (P ++ [⟨v, v + 1⟩]) (v + 2) (by rw [List.length_append, List.length_singleton]; omega) (by omega) (by omega) (by omega)
    rw [iota36]
    simpa using h
theorem held36_tells (L : Nat) (hl : L ≤ 1048576) (k : Nat) (hk : L < k) : laws_heldDiagonalS.f k (iota36 1 L) 1 = some (1 + 2 * (L : Int)) := by
  have h := held36_rounds L hl L 0 k [] 1 rfl (by omega) (by omega) hk
  unfold laws_heldDiagonalS.f
  simpa using h

theorem added_tells (C : List DG) (a b : Int) (hs : C.length ≤ 9) (r : List DG) (r1 : r.Pairwise leD) (r2 : r.Perm (C ++ [⟨a, b⟩])) (k : Nat) (hk : 400 < k) : impl_added.f k C a b = some r := by
  obtain ⟨r', h2, q1, q2⟩ := sortFunc_tells (C ++ [⟨a, b⟩]) (by simp; omega) k (by omega)
  have er : r' = r := sorted_unique (q2.trans r2.symm) q1 r1
  have hcl : impl_Diagonal_87.f C = some C := by
    unfold impl_Diagonal_87.f
    rw [if_pos (by omega)]
  unfold impl_added.f
  rw [hcl, Option.bind_some, Option.bind_some, if_pos (by simp only [List.length_cons, List.length_nil]; omega), h2, er]
  rfl
theorem free_first (n : Int) (hn : 3 ≤ n ∧ n ≤ 12) (C : List DG) (hN : NC n C) (h : (C.length : Int) < n - 3) : ∃ d R, F0 n C n.toNat 0 n.toNat = d :: R ∧ freeB n C d.f0 d.f1 = true := by
  obtain ⟨a, b, h1, h2, h3, h4, h5, h6⟩ := hN.free (by omega) h
  have hfr : freeB n C a b = true := by
    unfold freeB
    rw [h5, Bool.and_eq_true, Bool.and_eq_true]
    refine ⟨by unfold diagB; rw [decide_eq_true_eq]; omega, rfl, ?_⟩
    rw [Bool.not_eq_true', List.any_eq_false]
    intro e he
    have := h6 e he
    simp only [crossB, Bool.or_eq_true, decide_eq_true_eq]
    omega
  have hmem : (⟨a, b⟩ : DG) ∈ F0 n C n.toNat 0 n.toNat := (F0_mem n C hn ⟨a, b⟩).2 hfr
  cases hF : F0 n C n.toNat 0 n.toNat with
  | nil => rw [hF] at hmem; cases hmem
  | cons d R => exact ⟨d, R, rfl, (F0_mem n C hn d).1 (by rw [hF]; simp)⟩
theorem finer_rounds (n : Int) (hn : 3 ≤ n ∧ n ≤ 12) (e : Nat) : ∀ (C : List DG), isCutB n C = true → (C.length : Int) + e = n - 3 →
    ∃ r : List DG, r.length ≤ 9 ∧ ∀ k, 40000 + e < k → spec_FirstFiner.l0 k n C = some (r, true) ∧ impl_FirstFiner.l0 k n C = some (r, true) := by
  have w : wrap64 (n - 3) = n - 3 := by unfold wrap64; omega
  induction e with
  | zero =>
    intro C hC he
    refine ⟨C, by omega, fun k hk => ?_⟩
    obtain ⟨k, rfl⟩ : ∃ q, k = q + 1 := ⟨k - 1, by omega⟩
    constructor
    · simp only [spec_FirstFiner.l0]
      rw [w, if_neg (by omega)]
    · simp only [impl_FirstFiner.l0]
      rw [w, if_neg (by omega)]
  | succ e ih =>
    intro C hC he
    obtain ⟨_, hlen, hN⟩ := cut_nc n C hC
    have hs : C.length ≤ 8 := by omega
    obtain ⟨d, R, hF, hd⟩ := free_first n hn C hN (by omega)
    have rd0 : rd_T36 (d :: R) 0 = d := rT_mid [] d R 0 rfl
    obtain ⟨r, _, r1, r2⟩ := sortFunc_tells (C ++ [⟨d.f0, d.f1⟩]) (by simp; omega) 401 (by omega)
    have hcut : isCutB n r = true := by rw [add_cut n C hC d.f0 d.f1 r r1 r2]; exact hd
    have hrl : r.length = C.length + 1 := by rw [r2.length_eq]; simp
    obtain ⟨r', hr', hh⟩ := ih r hcut (by omega)
    refine ⟨r', hr', fun k hk => ?_⟩
    obtain ⟨k, rfl⟩ : ∃ q, k = q + 1 := ⟨k - 1, by omega⟩
    obtain ⟨g1, g2⟩ := hh k (by omega)
    obtain ⟨r'', h2, q1, q2⟩ := poSorted_tells (C ++ [⟨d.f0, d.f1⟩]) (by simp; omega) k (by omega)
    have er : r'' = r := sorted_unique (q2.trans r2.symm) q1 r1
    have hp : 0 < ((d :: R).length : Int) := by rw [List.length_cons]; omega
    constructor
    · simp only [spec_FirstFiner.l0]
      rw [w, if_pos (by omega), cuFree_tells n C hn (by omega) k (by omega), Option.bind_some, hF, if_pos hp, if_pos (by omega), rd0, h2, er]
      exact g1
    · simp only [impl_FirstFiner.l0]
      rw [w, if_pos (by omega), freeDiagonals_tells n C hn (by omega) k (by omega), Option.bind_some, hF, if_pos hp, rd0, added_tells C d.f0 d.f1 (by omega) r r1 r2 k (by omega)]
      exact g2
/-- What both return. -/
theorem both (n : Int) (C : List DG) (hc : C.length ≤ 1048576) : ∃ K r ok, r.length ≤ 1048576 ∧ ∀ k, K ≤ k → spec_FirstFiner.f k n C = some (r, ok) ∧ impl_FirstFiner.f k n C = some (r, ok) := by
  obtain ⟨K, e1, e2⟩ := Ev.at2 (cuGood_tells n C (by omega)) (isCut_tells n C (by omega))
  have E1 : ∀ k, K ≤ k → spec_cuGood.f k n C = some (isCutB n C) := fun k hk => by rw [show k = K + (k - K) by omega]; exact e1 _
  have E2 : ∀ k, K ≤ k → impl_IsCut.f k n C = some (isCutB n C) := fun k hk => by rw [show k = K + (k - K) by omega]; exact e2 _
  cases ht : isCutB n C
  · refine ⟨K + 1, [], false, by simp, fun k hk => ?_⟩
    simp [spec_FirstFiner.f, impl_FirstFiner.f, E1 k (by omega), E2 k (by omega), ht]
  · obtain ⟨hn, hlen, hN⟩ := cut_nc n C ht
    have hs : C.length ≤ 9 := by omega
    obtain ⟨r, hr, hh⟩ := finer_rounds n hn (n - 3 - C.length).toNat C ht (by omega)
    refine ⟨K + 50000, r, true, by omega, fun k hk => ?_⟩
    obtain ⟨g1, g2⟩ := hh k (by omega)
    have hcl : impl_Diagonal_87.f C = some C := by
      unfold impl_Diagonal_87.f
      rw [if_pos (by omega)]
    constructor
    · unfold spec_FirstFiner.f
      rw [E1 k (by omega), ht, Option.bind_some, if_pos rfl, Option.bind_some, if_pos (by simp only [List.length_nil]; omega), List.nil_append]
      exact g1
    · unfold impl_FirstFiner.f
      rw [E2 k (by omega), ht, Option.bind_some, if_pos rfl, hcl, Option.bind_some]
      exact g2

theorem FnExactFirstFiner (n : Int) (l : List S35) (_ : (Lit.int .i64 n).wf = true) (hm_l : l.length ≤ maxLen) (_ : ∀ y ∈ l, (Lit.int .i64 y.f0).wf = true ∧ (Lit.int .i64 y.f1).wf = true) :
    ∃ k, laws_FnExactFirstFiner.f k n l = some true := by
  obtain ⟨q0, hr0, hz0⟩ := sz36_any l 1048576 (by omega) (by omega) hm_l
  rcases hz0 with hz0 | ⟨hz0, hy0⟩
  · refine ⟨0, ?_⟩
    unfold laws_FnExactFirstFiner.f
    rw [hr0, Option.bind_some, if_pos hz0]
  ·
    obtain ⟨Cl, hCl⟩ : ∃ C, C = l.map conv36 := ⟨_, rfl⟩
    have hcl : Cl.length ≤ 1048576 := by rw [hCl, List.length_map]; omega
    obtain ⟨K1, r, ok, hrl, hb⟩ := both n Cl hcl
    obtain ⟨K2, e0, e1⟩ := Ev.at2 (toS36_tells l (by omega)) (eqS36_tells Cl (by omega))
    simp only [← hCl] at e0
    obtain ⟨K3, e9⟩ := Ev.at1 (eqS36_tells r (by omega))
    obtain ⟨M, hM⟩ : ∃ M, M = K1 + (K2 + (K3 + (Cl.length + r.length + 1))) := ⟨_, rfl⟩
    have b1 : ∀ j, spec_FirstFiner.f (M + j) n Cl = some (r, ok) := fun j => (hb (M + j) (by omega)).1
    have b2 : ∀ j, impl_FirstFiner.f (M + j) n Cl = some (r, ok) := fun j => (hb (M + j) (by omega)).2
    have t0 : ∀ j, laws_toDiagonalS.f (M + j) l = some Cl := fun j => by rw [show M + j = K2 + (M + j - K2) by omega]; exact e0 _
    have c0 : ∀ j, laws_eqDiagonalS.f (M + j) Cl Cl = some true := fun j => by rw [show M + j = K2 + (M + j - K2) by omega]; exact e1 _
    have m0 : ∀ j, laws_markDiagonalS.f (M + j) Cl 1 = _ := fun j => mark36_tells Cl hcl (M + j) (by omega)
    have er : ∀ j, laws_eqDiagonalS.f (M + j) r r = some true := fun j => by rw [show M + j = K3 + (M + j - K3) by omega]; exact e9 _
    have mr : ∀ j, laws_markDiagonalS.f (M + j) r 1 = _ := fun j => mark36_tells r hrl (M + j) (by omega)
    have hd : ∀ j, laws_heldDiagonalS.f (M + j) (iota36 1 r.length) 1 = _ := fun j => held36_tells r.length hrl (M + j) (by omega)
    have j2 : laws_FnExactFirstFiner.j2 (M + 2) (iota36 1 r.length) (1 + 2 * (r.length : Int)) false = some true := by
      simp only [laws_FnExactFirstFiner.j2, hd, Option.bind_some, Bool.false_eq_true, if_false, if_true]
      rw [if_neg (by omega)]
    have j1 : laws_FnExactFirstFiner.j1 (M + 3) n l r ok r false = some true := by
      simp only [laws_FnExactFirstFiner.j1, mr, hd, t0, b2, er, Option.bind_some, Bool.false_eq_true, if_false, if_true]
      rw [if_neg (by omega), bne_self_eq_false]
      exact j2
    have j0 : laws_FnExactFirstFiner.j0 (M + 4) n l r ok Cl r ok false = some true := by
      simp only [laws_FnExactFirstFiner.j0, t0, c0, er, m0, Option.bind_some, Bool.false_eq_true, if_false, if_true]
      rw [if_neg (by omega), bne_self_eq_false]
      exact j1
    refine ⟨M + 4, ?_⟩
    simp only [laws_FnExactFirstFiner.f, hr0, Option.bind_some, b1, b2, t0, er, if_true]
    rw [if_neg (by omega), bne_self_eq_false]
    exact j0

end Go.Proofs.Ytkipgbakoljaeaa.PureFnExactFirstFiner
