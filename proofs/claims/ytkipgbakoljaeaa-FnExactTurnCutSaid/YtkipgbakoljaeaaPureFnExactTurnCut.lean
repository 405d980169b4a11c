/- The program's TurnCut and the reference's return the same for every number of corners, every list of pairs of numbers that the statement lets in and every number: both give each end of each diagonal its new name, put the less one first and sort; a sorted list is given by its elements. No condition. -/
import Derived.Test.YtkipgbakoljaeaaPFnExactTurnCutx0
import Derived.Test.YtkipgbakoljaeaaPFnExactTurnCutx1
import Derived.Test.YtkipgbakoljaeaaPFnExactTurnCutx10
import Derived.Test.YtkipgbakoljaeaaPFnExactTurnCutx2
import Derived.Test.YtkipgbakoljaeaaPFnExactTurnCutx3
import Derived.Test.YtkipgbakoljaeaaPFnExactTurnCutx4
import Derived.Test.YtkipgbakoljaeaaPFnExactTurnCutx5
import Derived.Test.YtkipgbakoljaeaaPFnExactTurnCutx6
import Derived.Test.YtkipgbakoljaeaaPFnExactTurnCutx7
import Derived.Test.YtkipgbakoljaeaaPFnExactTurnCutx8
import Derived.Test.YtkipgbakoljaeaaPFnExactTurnCutx9
set_option linter.unusedSimpArgs false
set_option linter.unnecessarySimpa false
set_option linter.unusedVariables false
namespace Go.Proofs.Ytkipgbakoljaeaa.PureFnExactTurnCut
open Go.RowKit Go.Proofs.Ytkipgbakoljaeaa.PFnExactTurnCut Go.Proofs.YtkipgbakoljaeaaW.PrintWords Go.Proofs.YtkipgbakoljaeaaW.PrintLast

theorem Ev.at1 {α : Type} {g : Nat → Option α} {r : α} (h : Ev g r) : ∃ K, ∀ j, g (K + j) = some r := by
  obtain ⟨K, h⟩ := h
  exact ⟨K, fun j => h _ (by omega)⟩
theorem Ev.at2 {α β : Type} {g : Nat → Option α} {r : α} {g2 : Nat → Option β} {r2 : β} (h : Ev g r) (h2 : Ev g2 r2) : ∃ K, (∀ j, g (K + j) = some r) ∧ ∀ j, g2 (K + j) = some r2 := by
  obtain ⟨K, h⟩ := h
  obtain ⟨K2, h2⟩ := h2
  exact ⟨K + K2, fun j => h _ (by omega), fun j => h2 _ (by omega)⟩
theorem Ev.at3 {α β γ : Type} {g : Nat → Option α} {r : α} {g2 : Nat → Option β} {r2 : β} {g3 : Nat → Option γ} {r3 : γ} (h : Ev g r) (h2 : Ev g2 r2) (h3 : Ev g3 r3) :
    ∃ K, (∀ j, g (K + j) = some r) ∧ (∀ j, g2 (K + j) = some r2) ∧ ∀ j, g3 (K + j) = some r3 := by
  obtain ⟨K, h⟩ := h
  obtain ⟨K2, h2⟩ := h2
  obtain ⟨K3, h3⟩ := h3
  exact ⟨K + K2 + K3, fun j => h _ (by omega), fun j => h2 _ (by omega), fun j => h3 _ (by omega)⟩
theorem Ev.at4 {α β γ δ : Type} {g : Nat → Option α} {r : α} {g2 : Nat → Option β} {r2 : β} {g3 : Nat → Option γ} {r3 : γ} {g4 : Nat → Option δ} {r4 : δ} (h : Ev g r) (h2 : Ev g2 r2) (h3 : Ev g3 r3) (h4 : Ev g4 r4) :
    ∃ K, (∀ j, g (K + j) = some r) ∧ (∀ j, g2 (K + j) = some r2) ∧ (∀ j, g3 (K + j) = some r3) ∧ ∀ j, g4 (K + j) = some r4 := by
  obtain ⟨K, e1, e2, e3⟩ := Ev.at3 h h2 h3
  obtain ⟨K4, h4⟩ := h4
  exact ⟨K + K4, fun j => by rw [Nat.add_assoc]; exact e1 _, fun j => by rw [Nat.add_assoc]; exact e2 _, fun j => by rw [Nat.add_assoc]; exact e3 _, fun j => h4 _ (by omega)⟩
theorem Ev.all {α β : Type} {g : α → Nat → Option β} {r : α → β} (l : List α) (h : ∀ x, x ∈ l → Ev (g x) (r x)) : ∃ K, ∀ x, x ∈ l → ∀ k, K ≤ k → g x k = some (r x) := by
  induction l with
  | nil => exact ⟨0, fun x hx => by cases hx⟩
  | cons y l ih =>
    obtain ⟨K, hK⟩ := ih (fun x hx => h x (List.mem_cons_of_mem _ hx))
    obtain ⟨K2, hK2⟩ := h y (List.mem_cons_self ..)
    refine ⟨K + K2, fun x hx k hk => ?_⟩
    rcases List.mem_cons.1 hx with e | e
    · subst e
      exact hK2 k (by omega)
    · exact hK x e k (by omega)

theorem take_set_succ {α : Type} (l : List α) (i : Nat) (v : α) (h : i < l.length) : (l.set i v).take (i + 1) = l.take i ++ [v] := by
  rw [List.take_succ_eq_append_getElem (by rw [List.length_set]; exact h), List.getElem_set_self, List.take_set_of_le (Nat.le_refl i)]
theorem getD_drop {α : Type} (l : List α) (d : α) (i : Nat) (h : i < l.length) : l.drop i = l.getD i d :: l.drop (i + 1) := by
  rw [List.drop_eq_getElem_cons h, List.getD_eq_getElem?_getD, List.getElem?_eq_getElem h]
  rfl
theorem wrap_succ (i : Nat) (h : i < 4611686018427387904) : wrap64 ((i : Int) + 1) = ((i + 1 : Nat) : Int) := by unfold wrap64; omega
theorem wrap_pred (i : Nat) (h0 : 0 < i) (h : i < 4611686018427387904) : wrap64 ((i : Int) - 1) = ((i - 1 : Nat) : Int) := by unfold wrap64; omega

theorem l1In_tells (a b c : Int) : spec_l1In.f a b c = some (decide (b ≤ a ∧ a ≤ c)) := by
  unfold spec_l1In.f
  by_cases h : a ≥ b
  · rw [if_pos h]
    have : b ≤ a := h
    simp [this]
  · rw [if_neg h]
    have : ¬ b ≤ a := h
    simp [this]

theorem within_tells (a b c : Int) : impl_within.f a b c = some (decide (b ≤ a ∧ a ≤ c)) := by
  unfold impl_within.f
  by_cases h : a ≥ b
  · rw [if_pos h]
    have : b ≤ a := h
    simp [this]
  · rw [if_neg h]
    have : ¬ b ≤ a := h
    simp [this]

abbrev DG := S36
abbrev rD (l : List DG) (j : Nat) : DG := rd_T36 l (j : Int)
def crossB (a b c d : Int) : Bool := decide (a < c ∧ c < b ∧ b < d) || decide (c < a ∧ a < d ∧ d < b)
def diagB (n a b : Int) : Bool := decide (0 ≤ a ∧ b ≤ n - 1 ∧ b - a ≥ 2 ∧ b - a ≤ n - 2)
def lessB (a b c d : Int) : Bool := decide (a < c ∨ (a = c ∧ b < d))
def stepD (n : Int) (l : List DG) (j : Nat) : Bool :=
  diagB n (rD l j).f0 (rD l j).f1 && ((j == 0 || lessB (rD l (j - 1)).f0 (rD l (j - 1)).f1 (rD l j).f0 (rD l j).f1) && !(l.take j).any fun e => crossB (rD l j).f0 (rD l j).f1 e.f0 e.f1)
theorem stepD_def (n : Int) (l : List DG) (j : Nat) : stepD n l j = (diagB n (rD l j).f0 (rD l j).f1 && ((j == 0 || lessB (rD l (j - 1)).f0 (rD l (j - 1)).f1 (rD l j).f0 (rD l j).f1) && !(l.take j).any fun e => crossB (rD l j).f0 (rD l j).f1 e.f0 e.f1)) := rfl
def goodD (n : Int) (l : List DG) : Bool := (List.range' 0 l.length).all (stepD n l)

theorem rD_drop (l : List DG) (i : Nat) (h : i < l.length) : l.drop i = rD l i :: l.drop (i + 1) := by
  rw [getD_drop l z36 i h]
  unfold rD rd_T36
  rw [Int.toNat_natCast]
theorem any_take_step (p : DG → Bool) (l : List DG) (i : Nat) (h : i < l.length) : (l.drop i).any p = (p (rD l i) || (l.drop (i + 1)).any p) := by
  rw [rD_drop l i h, List.any_cons]

theorem poCross_tells (a b c d : Int) : spec_poCross.f a b c d = some (crossB a b c d) := by
  unfold spec_poCross.f crossB
  repeat' split
  all_goals congr 1; rw [Bool.eq_iff_iff]; simp only [Bool.or_eq_true, decide_eq_true_eq, Bool.false_eq_true, false_iff, true_iff]; omega
theorem poLess_tells (a b c d : Int) : spec_poLess.f a b c d = some (lessB a b c d) := by
  unfold spec_poLess.f lessB
  repeat' split
  all_goals congr 1; rw [Bool.eq_iff_iff]; simp only [decide_eq_true_eq, Bool.false_eq_true, false_iff, true_iff]; omega
theorem poIs_tells (n : Int) : spec_poIs.f n = some (decide (3 ≤ n ∧ n ≤ 12)) := by
  unfold spec_poIs.f
  rw [l1In_tells]
  rfl
theorem poDiagonal_tells (n a b : Int) (h : 3 ≤ n ∧ n ≤ 12) : spec_poDiagonal.f n a b = some (diagB n a b) := by
  unfold spec_poDiagonal.f diagB
  rw [poIs_tells, l1In_tells, l1In_tells, decide_eq_true h]
  have w : wrap64 (n - 1) = n - 1 := by unfold wrap64; omega
  have w2 : wrap64 (n - 2) = n - 2 := by unfold wrap64; omega
  simp only [Option.bind_some, if_true, w, w2, decide_eq_true_eq]
  by_cases h0 : 0 ≤ a ∧ a ≤ n - 1
  · by_cases h1 : 0 ≤ b ∧ b ≤ n - 1
    · have w3 : wrap64 (b - a) = b - a := by unfold wrap64; omega
      rw [if_pos h0, if_pos h1, w3]
      split
      all_goals congr 1; rw [Bool.eq_iff_iff]; simp only [decide_eq_true_eq, Bool.false_eq_true, false_iff]; omega
    · rw [if_pos h0, if_neg h1]
      congr 1; rw [Bool.eq_iff_iff]; simp only [decide_eq_true_eq, Bool.false_eq_true, false_iff]; omega
  · rw [if_neg h0]
    congr 1; rw [Bool.eq_iff_iff]; simp only [decide_eq_true_eq, Bool.false_eq_true, false_iff]; omega

theorem spec_cuGood_inner (n : Int) (l y x19 : List DG) (x20 x21 c d : Int) (hy : y.length ≤ 4611686018427387904) (e : Nat) : ∀ (m k : Nat), m + e = y.length → e < k →
    spec_cuGood.l1 k n l x19 x20 x21 y (y.length : Int) (m : Int) c d = if (y.drop m).any (fun z => crossB c d z.f0 z.f1) = true then some false else spec_cuGood.l0 (k - e - 1) n l x19 x20 (wrap64 (x21 + 1)) := by
  induction e with
  | zero =>
    intro m k hm hk
    obtain ⟨k, rfl⟩ : ∃ q, k = q + 1 := ⟨k - 1, by omega⟩
    simp only [spec_cuGood.l1]
    rw [if_neg (by omega), List.drop_of_length_le (by omega)]
    simp
  | succ e ih =>
    intro m k hm hk
    obtain ⟨k, rfl⟩ : ∃ q, k = q + 1 := ⟨k - 1, by omega⟩
    simp only [spec_cuGood.l1]
    rw [if_pos (by omega), if_pos (by omega), if_pos (by omega), poCross_tells, Option.bind_some, wrap_succ m (by omega), ih (m + 1) k (by omega) (by omega), any_take_step _ y m (by omega)]
    rw [show k + 1 - (e + 1) - 1 = k - e - 1 by omega]
    cases crossB c d (rD y m).f0 (rD y m).f1 <;> simp
theorem spec_cuGood_rounds (n : Int) (hn : 3 ≤ n ∧ n ≤ 12) (l : List DG) (hl : l.length ≤ 4611686018427387904) (d : Nat) : ∀ (i k : Nat), i + d = l.length → d * (l.length + 3) < k →
    spec_cuGood.l0 k n l l (l.length : Int) (i : Int) = some ((List.range' i d).all (stepD n l)) := by
  induction d with
  | zero =>
    intro i k hi hk
    obtain ⟨k, rfl⟩ : ∃ q, k = q + 1 := ⟨k - 1, by omega⟩
    simp only [spec_cuGood.l0]
    rw [if_neg (by omega)]
    rfl
  | succ d ih =>
    intro i k hi hk
    have hk2 : d * (l.length + 3) + (l.length + 3) < k := by rw [← Nat.succ_mul]; exact hk
    obtain ⟨k, rfl⟩ : ∃ q, k = q + 1 := ⟨k - 1, by omega⟩
    have hj : ∀ b : Bool, spec_cuGood.j2 k n l (i : Int) l (l.length : Int) (i : Int) b (rD l i).f0 (rD l i).f1 =
        if b = true then some false else if (l.take i).any (fun z => crossB (rD l i).f0 (rD l i).f1 z.f0 z.f1) = true then some false else some ((List.range' (i + 1) d).all (stepD n l)) := by
      intro b
      obtain ⟨k, rfl⟩ : ∃ q, k = q + 1 := ⟨k - 1, by omega⟩
      have ht : (l.take i).length = i := by rw [List.length_take]; omega
      have h1 := spec_cuGood_inner n l (l.take i) l (l.length : Int) (i : Int) (rD l i).f0 (rD l i).f1 (by omega) i 0 k (by omega) (by omega)
      rw [List.drop_zero, wrap_succ i (by omega), ih (i + 1) _ (by omega) (by omega)] at h1
      simp only [spec_cuGood.j2, Int.toNat_natCast, Option.bind_some]
      cases b
      · rw [if_neg (by simp), if_pos (by omega), if_pos (by omega), if_neg (by simp)]
        exact h1
      · rfl
    simp only [spec_cuGood.l0]
    rw [if_pos (by omega), if_pos (by omega), if_pos (by omega), poDiagonal_tells n _ _ hn, Option.bind_some, List.range'_succ, List.all_cons, hj, hj, stepD_def n l i]
    cases diagB n (rD l i).f0 (rD l i).f1 with
    | false => simp
    | true =>
      rw [if_pos rfl]
      by_cases h0 : i = 0
      · subst h0
        rw [if_neg (by omega)]
        cases (l.take 0).any (fun z => crossB (rD l 0).f0 (rD l 0).f1 z.f0 z.f1) <;> simp
      · have b0 : (i == 0) = false := by simp [h0]
        rw [if_pos (by omega), wrap_pred i (by omega) (by omega), if_pos (by omega), if_pos (by omega), poLess_tells, Option.bind_some, hj, b0]
        cases lessB (rD l (i - 1)).f0 (rD l (i - 1)).f1 (rD l i).f0 (rD l i).f1 <;> cases (l.take i).any (fun z => crossB (rD l i).f0 (rD l i).f1 z.f0 z.f1) <;> simp

def isCutB (n : Int) (l : List DG) : Bool := decide (3 ≤ n ∧ n ≤ 12) && (decide ((l.length : Int) ≤ n - 3) && goodD n l)
theorem cuGood_tells (n : Int) (l : List DG) (hl : l.length ≤ 4611686018427387904) : Ev (fun k => spec_cuGood.f k n l) (isCutB n l) := by
  refine ⟨l.length * (l.length + 3) + 2, fun k hk => ?_⟩
  obtain ⟨k, rfl⟩ : ∃ q, k = q + 1 := ⟨k - 1, by omega⟩
  show spec_cuGood.f (k + 1) n l = _
  unfold spec_cuGood.f isCutB goodD
  rw [poIs_tells, Option.bind_some]
  by_cases hn : 3 ≤ n ∧ n ≤ 12
  · have w : wrap64 (n - 3) = n - 3 := by unfold wrap64; omega
    have h := spec_cuGood_rounds n hn l hl l.length 0 k (by omega) (by omega)
    rw [show ((0 : Nat) : Int) = 0 from rfl] at h
    rw [decide_eq_true hn, if_pos rfl, w]
    simp only [spec_cuGood.j0, h]
    by_cases hc : (l.length : Int) > n - 3
    · rw [decide_eq_true hc, decide_eq_false (by omega)]
      rfl
    · rw [decide_eq_false hc, decide_eq_true (by omega)]
      rfl
  · rw [decide_eq_false hn]
    rfl

theorem doCross_tells (a b c d : Int) : impl_doCross.f a b c d = some (crossB a b c d) := by
  unfold impl_doCross.f crossB
  repeat' split
  all_goals congr 1; rw [Bool.eq_iff_iff]; simp only [Bool.or_eq_true, decide_eq_true_eq, Bool.false_eq_true, false_iff, true_iff]; omega
theorem isPolygon_tells (n : Int) : impl_isPolygon.f n = some (decide (3 ≤ n ∧ n ≤ 12)) := by
  unfold impl_isPolygon.f
  rw [within_tells]
  rfl
theorem isDiagonal_tells (n a b : Int) (h : 3 ≤ n ∧ n ≤ 12) : impl_isDiagonal.f n a b = some (diagB n a b) := by
  unfold impl_isDiagonal.f diagB
  rw [within_tells, within_tells]
  have w : wrap64 (n - 1) = n - 1 := by unfold wrap64; omega
  simp only [Option.bind_some, w, decide_eq_true_eq]
  by_cases h0 : 0 ≤ a ∧ a ≤ n - 1
  · by_cases h1 : 0 ≤ b ∧ b ≤ n - 1
    · have w3 : wrap64 (b - a) = b - a := by unfold wrap64; omega
      rw [if_pos h0, if_pos h1, w3]
      repeat' split
      all_goals congr 1; rw [Bool.eq_iff_iff]; simp only [decide_eq_true_eq, Bool.false_eq_true, false_iff, Bool.not_eq_true', beq_eq_false_iff_ne, ne_eq, Bool.not_false, true_iff]; omega
    · rw [if_pos h0, if_neg h1]
      congr 1; rw [Bool.eq_iff_iff]; simp only [decide_eq_true_eq, Bool.false_eq_true, false_iff]; omega
  · rw [if_neg h0]
    congr 1; rw [Bool.eq_iff_iff]; simp only [decide_eq_true_eq, Bool.false_eq_true, false_iff]; omega
def cmpI (a c : Int) : Int := if a < c then -1 else if a > c then 1 else 0
def cmpD (a b c d : Int) : Int := if a = c then cmpI b d else cmpI a c
theorem compare_tells (a c : Int) : cmp_Compare_int.f a c = some (cmpI a c) := by
  unfold cmp_Compare_int.f cmp_isNaN_int.f cmpI
  have h0 : (a != a) = false := by simp
  have h1 : (c != c) = false := by simp
  rw [h0, h1]
  simp only [Option.bind_some, Bool.false_eq_true, if_false]
  repeat' split
  all_goals rfl
theorem compareDiagonals_tells (a b c d : Int) (k : Nat) (hk : 3 ≤ k) : impl_compareDiagonals.f k a b c d = some (cmpD a b c d) := by
  obtain ⟨k, rfl⟩ : ∃ q, k = q + 3 := ⟨k - 3, by omega⟩
  unfold impl_compareDiagonals.f cmp_Or_int.f
  rw [compare_tells, compare_tells]
  simp only [Option.bind_some, List.length_cons, List.length_nil]
  have r0 : rd [cmpI a c, cmpI b d] 0 = cmpI a c := rfl
  have r1 : rd [cmpI a c, cmpI b d] 1 = cmpI b d := rfl
  have w0 : wrap64 (0 + 1) = 1 := by unfold wrap64; omega
  have w1 : wrap64 (1 + 1) = 2 := by unfold wrap64; omega
  simp only [cmp_Or_int.l0, w0, w1, r0, r1]
  unfold cmpD
  by_cases e : a = c
  · have z : cmpI a c = 0 := by unfold cmpI; rw [if_neg (by omega), if_neg (by omega)]
    rw [if_pos e, z]
    by_cases z2 : cmpI b d = 0
    · simp [z2]
    · simp [z2]
  · have z : ¬ cmpI a c = 0 := by unfold cmpI; split; · omega
                                  split <;> omega
    rw [if_neg e]
    simp [z]
theorem cmpD_nonneg (a b c d : Int) : cmpD a b c d ≥ 0 ↔ lessB a b c d = false := by
  unfold cmpD cmpI lessB
  rw [decide_eq_false_iff_not]
  repeat' split
  all_goals omega

theorem impl_Diagonal_89_s1_rounds (l : List DG) (c d : Int) (hl : l.length ≤ 4611686018427387904) (e : Nat) : ∀ (i k : Nat), i + e = l.length → e < k →
    ∃ r, impl_Diagonal_89_s1.l0 k l (l.length : Int) (i : Int) c d = some r ∧ (r ≥ 0 ↔ (l.drop i).any (fun z => crossB c d z.f0 z.f1) = true) := by
  induction e with
  | zero =>
    intro i k hi hk
    obtain ⟨k, rfl⟩ : ∃ q, k = q + 1 := ⟨k - 1, by omega⟩
    simp only [impl_Diagonal_89_s1.l0]
    rw [if_neg (by omega), List.drop_of_length_le (by omega)]
    exact ⟨-1, rfl, by simp⟩
  | succ e ih =>
    intro i k hi hk
    obtain ⟨k, rfl⟩ : ∃ q, k = q + 1 := ⟨k - 1, by omega⟩
    obtain ⟨r, hr, hr2⟩ := ih (i + 1) k (by omega) (by omega)
    simp only [impl_Diagonal_89_s1.l0, impl_crosses_1_s2.f]
    rw [if_pos (by omega), if_pos (by omega), if_pos (by omega), doCross_tells, wrap_succ i (by omega), hr, any_take_step _ l i (by omega)]
    simp only [Option.bind_some]
    cases hc : crossB c d (rD l i).f0 (rD l i).f1 with
    | true => exact ⟨i, rfl, by simp⟩
    | false => exact ⟨r, rfl, by rw [Bool.false_or]; exact hr2⟩
theorem impl_Diagonal_84_s0_tells (l : List DG) (c d : Int) (hl : l.length ≤ 4611686018427387904) (k : Nat) (hk : l.length < k) : impl_Diagonal_84_s0.f k l c d = some (l.any fun z => crossB c d z.f0 z.f1) := by
  obtain ⟨r, hr, hr2⟩ := impl_Diagonal_89_s1_rounds l c d hl l.length 0 k (by omega) hk
  unfold impl_Diagonal_84_s0.f impl_Diagonal_89_s1.f
  rw [show ((0 : Nat) : Int) = 0 from rfl] at hr
  rw [hr, Option.bind_some]
  congr 1
  rw [Bool.eq_iff_iff, decide_eq_true_iff, hr2, List.drop_zero]

theorem crosses_tells (l : List DG) (c d : Int) (hl : l.length ≤ 4611686018427387904) (k : Nat) (hk : l.length < k) : impl_crosses.f k l c d = some (l.any fun z => crossB c d z.f0 z.f1) := by
  unfold impl_crosses.f
  rw [impl_Diagonal_84_s0_tells l c d hl k hk]
  rfl

theorem impl_IsCut_rounds (n : Int) (hn : 3 ≤ n ∧ n ≤ 12) (l : List DG) (hl : l.length ≤ 4611686018427387904) (d : Nat) : ∀ (i k : Nat), i + d = l.length → d + l.length + 3 < k →
    impl_IsCut.l0 k n l l (l.length : Int) (i : Int) = some ((List.range' i d).all (stepD n l)) := by
  induction d with
  | zero =>
    intro i k hi hk
    obtain ⟨k, rfl⟩ : ∃ q, k = q + 1 := ⟨k - 1, by omega⟩
    simp only [impl_IsCut.l0]
    rw [if_neg (by omega)]
    rfl
  | succ d ih =>
    intro i k hi hk
    obtain ⟨k, rfl⟩ : ∃ q, k = q + 1 := ⟨k - 1, by omega⟩
    have ht : (l.take i).length = i := by rw [List.length_take]; omega
    have hc : impl_crosses.f k (l.take i) (rD l i).f0 (rD l i).f1 = some ((l.take i).any fun z => crossB (rD l i).f0 (rD l i).f1 z.f0 z.f1) := crosses_tells _ _ _ (by omega) k (by omega)
    simp only [impl_IsCut.l0, Int.toNat_natCast]
    rw [if_pos (by omega), if_pos (by omega), if_pos (by omega), isDiagonal_tells n _ _ hn, Option.bind_some, hc, Option.bind_some, wrap_succ i (by omega), ih (i + 1) k (by omega) (by omega), List.range'_succ, List.all_cons, stepD_def n l i]
    cases diagB n (rD l i).f0 (rD l i).f1 with
    | false => simp
    | true =>
      rw [if_pos rfl]
      by_cases h0 : i = 0
      · subst h0
        rw [if_neg (by omega), if_pos (by omega)]
        cases (l.take 0).any (fun z => crossB (rD l 0).f0 (rD l 0).f1 z.f0 z.f1) <;> simp
      · have b0 : (i == 0) = false := by simp [h0]
        rw [if_pos (by omega), wrap_pred i (by omega) (by omega), if_pos (by omega), if_pos (by omega), compareDiagonals_tells _ _ _ _ k (by omega), Option.bind_some, b0]
        have hcm := cmpD_nonneg (rD l (i - 1)).f0 (rD l (i - 1)).f1 (rD l i).f0 (rD l i).f1
        cases hs : lessB (rD l (i - 1)).f0 (rD l (i - 1)).f1 (rD l i).f0 (rD l i).f1 with
        | false => rw [if_pos (hcm.2 hs)]; simp
        | true =>
          rw [if_neg (fun h => by rw [hcm.1 h] at hs; cases hs), if_pos (by omega)]
          cases (l.take i).any (fun z => crossB (rD l i).f0 (rD l i).f1 z.f0 z.f1) <;> simp

theorem isCut_tells (n : Int) (l : List DG) (hl : l.length ≤ 4611686018427387904) : Ev (fun k => impl_IsCut.f k n l) (isCutB n l) := by
  refine ⟨l.length + l.length + 5, fun k hk => ?_⟩
  obtain ⟨k, rfl⟩ : ∃ q, k = q + 1 := ⟨k - 1, by omega⟩
  show impl_IsCut.f (k + 1) n l = _
  unfold impl_IsCut.f isCutB goodD
  rw [isPolygon_tells, Option.bind_some]
  by_cases hn : 3 ≤ n ∧ n ≤ 12
  · have w : wrap64 (n - 3) = n - 3 := by unfold wrap64; omega
    have h := impl_IsCut_rounds n hn l hl l.length 0 k (by omega) (by omega)
    rw [show ((0 : Nat) : Int) = 0 from rfl] at h
    rw [decide_eq_true hn, if_pos rfl, w]
    simp only [impl_IsCut.j0, h]
    by_cases hc : (l.length : Int) > n - 3
    · rw [decide_eq_true hc, decide_eq_false (by omega)]
      rfl
    · rw [decide_eq_false hc, decide_eq_true (by omega)]
      rfl
  · rw [decide_eq_false hn]
    simp [impl_IsCut.j0]

theorem cut_ok (n : Int) (l : List DG) (h : isCutB n l = true) : (3 ≤ n ∧ n ≤ 12) ∧ (l.length : Int) ≤ n - 3 ∧ ∀ d ∈ l, 0 ≤ d.f0 ∧ d.f1 ≤ n - 1 ∧ 2 ≤ d.f1 - d.f0 ∧ d.f1 - d.f0 ≤ n - 2 := by
  unfold isCutB goodD at h
  simp only [Bool.and_eq_true, decide_eq_true_eq, List.all_eq_true] at h
  obtain ⟨hn, hl, hs⟩ := h
  refine ⟨hn, hl, fun d hd => ?_⟩
  obtain ⟨j, hj, e⟩ := List.getElem_of_mem hd
  have h1 := hs j (List.mem_range'_1.2 ⟨by omega, by omega⟩)
  have hg : rD l j = d := by
    unfold rD rd_T36
    rw [Int.toNat_natCast, List.getD_eq_getElem?_getD, List.getElem?_eq_getElem hj, ← e]
    rfl
  rw [stepD_def, hg] at h1
  simp only [Bool.and_eq_true, diagB, decide_eq_true_eq] at h1
  omega

theorem least_tells (a b : Int) : spec_l1Least.f a b = some (min a b) := by
  unfold spec_l1Least.f
  split <;> congr 1 <;> omega
theorem most_tells (a b : Int) : spec_l1Most.f a b = some (max a b) := by
  unfold spec_l1Most.f
  split <;> congr 1 <;> omega

def ltD (x y : DG) : Prop := x.f0 < y.f0 ∨ (x.f0 = y.f0 ∧ x.f1 < y.f1)
def leD (x y : DG) : Prop := x.f0 < y.f0 ∨ (x.f0 = y.f0 ∧ x.f1 ≤ y.f1)
theorem leD_antisymm {x y : DG} (h1 : leD x y) (h2 : leD y x) : x = y := by
  obtain ⟨a, b⟩ := x
  obtain ⟨c, d⟩ := y
  unfold leD at h1 h2
  simp only at h1 h2
  have e1 : a = c := by omega
  have e2 : b = d := by omega
  rw [e1, e2]
theorem sorted_unique : ∀ {l m : List DG}, l.Perm m → l.Pairwise leD → m.Pairwise leD → l = m
  | [], m, h, _, _ => (List.Perm.nil_eq h)
  | x :: l, [], h, _, _ => by have := h.length_eq; simp at this
  | x :: l, y :: m, h, h1, h2 => by
    obtain ⟨a1, a2⟩ := List.pairwise_cons.1 h1
    obtain ⟨b1, b2⟩ := List.pairwise_cons.1 h2
    have e : x = y := by
      have hx : x ∈ y :: m := h.subset (List.mem_cons_self ..)
      have hy : y ∈ x :: l := h.symm.subset (List.mem_cons_self ..)
      rcases List.mem_cons.1 hx with hx | hx
      · exact hx
      · rcases List.mem_cons.1 hy with hy | hy
        · exact hy.symm
        · exact leD_antisymm (a1 y hy) (b1 x hx)
    rw [e] at h ⊢
    rw [sorted_unique (List.Perm.cons_inv h) a2 b2]
theorem sorted_ins {A B : List DG} {d : DG} (h : (A ++ B).Pairwise leD) (hA : ∀ x ∈ A, leD x d) (hB : ∀ x ∈ B, leD d x) : (A ++ d :: B).Pairwise leD := by
  rw [List.pairwise_append] at h ⊢
  obtain ⟨h1, h2, h3⟩ := h
  refine ⟨h1, List.pairwise_cons.2 ⟨hB, h2⟩, fun x hx y hy => ?_⟩
  rcases List.mem_cons.1 hy with e | e
  · rw [e]
    exact hA x hx
  · exact h3 x hx y e
theorem leD_trans {x y z : DG} (h1 : leD x y) (h2 : leD y z) : leD x z := by
  unfold leD at *
  omega
theorem rT_mid (A : List DG) (d : DG) (R : List DG) (i : Int) (hi : i = (A.length : Int)) : rd_T36 (A ++ d :: R) i = d := by
  unfold rd_T36
  rw [hi, Int.toNat_natCast, List.getD_eq_getElem?_getD]
  simp
/-- The reference's place for one: behind all that are less. -/
theorem ps_l1 (d : DG) (x8 : List DG) (x9 x10 : Int) (e : Nat) : ∀ (A B : List DG) (k : Nat), B.length = e → A.length + B.length ≤ 1000 → (A ++ B).Pairwise leD → (∀ x ∈ A, leD x d) → e + 2 < k →
    ∃ S k', k ≤ k' + e + 1 ∧ S.Pairwise leD ∧ S.Perm (d :: (A ++ B)) ∧ spec_poSorted.l1 k (A ++ B) (A.length : Int) x8 x9 x10 d.f0 d.f1 = spec_poSorted.l0 k' S x8 x9 (wrap64 (x10 + 1)) := by
  induction e with
  | zero =>
    intro A B k hB hl hs hA hk
    obtain ⟨k, rfl⟩ : ∃ q, k = q + 1 := ⟨k - 1, by omega⟩
    have : B = [] := List.length_eq_zero_iff.1 hB
    subst this
    rw [List.append_nil] at hs ⊢
    refine ⟨A ++ [d], k, by omega, sorted_ins (by simpa using hs) hA (by simp), by simpa using (List.perm_append_comm (l₁ := A) (l₂ := [d])), ?_⟩
    simp only [spec_poSorted.l1, Int.toNat_natCast, Option.bind_some, List.nil_append, List.take_length, List.drop_length, List.length_append, List.length_nil, List.length_singleton, List.append_nil]
    rw [if_neg (by omega), if_pos (by omega), if_pos (by omega), if_pos (by omega), if_pos (by omega), if_pos (by omega)]
  | succ e ih =>
    intro A B k hB hl hs hA hk
    obtain ⟨k, rfl⟩ : ∃ q, k = q + 1 := ⟨k - 1, by omega⟩
    cases B with
    | nil => simp at hB
    | cons z B =>
      rw [List.length_cons] at hB hl
      have w : wrap64 ((A.length : Int) + 1) = ((A ++ [z]).length : Int) := by
        rw [List.length_append, List.length_singleton]
        unfold wrap64
        omega
      have r1 : rd_T36 (A ++ z :: B) (A.length : Int) = z := rT_mid _ _ _ _ rfl
      have hlen : (A ++ z :: B).length = A.length + (B.length + 1) := by simp
      simp only [spec_poSorted.l1]
      rw [if_pos (by rw [hlen]; omega), if_pos (by omega), r1, poLess_tells, Option.bind_some, w]
      cases hc : lessB z.f0 z.f1 d.f0 d.f1
      · rw [if_neg (by simp)]
        have hdz : leD d z := by
          simp only [lessB, decide_eq_false_iff_not] at hc
          unfold leD
          omega
        refine ⟨A ++ d :: z :: B, k, by omega, sorted_ins hs hA ?_, List.perm_middle, ?_⟩
        · intro x hx
          rcases List.mem_cons.1 hx with e | e
          · rw [e]
            exact hdz
          · exact leD_trans hdz ((List.pairwise_cons.1 (List.pairwise_append.1 hs).2.1).1 x e)
        · have t1 : (A ++ z :: B).take A.length = A := by simp
          have t2 : (A ++ z :: B).drop A.length = z :: B := by simp
          simp only [Int.toNat_natCast, Option.bind_some, List.nil_append, t1, t2, List.length_append, List.length_nil, List.length_singleton, List.length_cons]
          rw [if_pos (by omega), if_pos (by omega), if_pos (by omega), if_pos (by omega)]
          simp
      · rw [if_pos rfl]
        have hzd : leD z d := by
          simp only [lessB, decide_eq_true_eq] at hc
          unfold leD
          omega
        have ea : A ++ z :: B = (A ++ [z]) ++ B := by simp
        rw [ea] at hs ⊢
        obtain ⟨S, k', h1, h2, h3, h4⟩ := ih (A ++ [z]) B k (by omega) (by rw [List.length_append, List.length_singleton]; omega) hs (by
          intro x hx
          rcases List.mem_append.1 hx with e | e
          · exact hA x e
          · rw [List.mem_singleton] at e
            rw [e]
            exact hzd) (by omega)
        exact ⟨S, k', by omega, h2, h3, h4⟩

theorem ps_l0 (x8 : List DG) (hx : x8.length ≤ 100) (e : Nat) : ∀ (i : Nat) (S : List DG) (k : Nat), i + e = x8.length → S.length = i → S.Pairwise leD → S.Perm (x8.take i) → 110 * e + 10 < k →
    ∃ r, spec_poSorted.l0 k S x8 (x8.length : Int) (i : Int) = some r ∧ r.Pairwise leD ∧ r.Perm x8 := by
  induction e with
  | zero =>
    intro i S k hi hS hs hp hk
    obtain ⟨k, rfl⟩ : ∃ q, k = q + 1 := ⟨k - 1, by omega⟩
    refine ⟨S, ?_, hs, ?_⟩
    · simp only [spec_poSorted.l0]
      rw [if_neg (by omega)]
    · rwa [List.take_of_length_le (by omega)] at hp
  | succ e ih =>
    intro i S k hi hS hs hp hk
    obtain ⟨k, rfl⟩ : ∃ q, k = q + 1 := ⟨k - 1, by omega⟩
    obtain ⟨S', k', h1, h2, h3, h4⟩ := ps_l1 (rD x8 i) x8 (x8.length : Int) (i : Int) S.length [] S k rfl (by simp; omega) (by simpa using hs) (by simp) (by omega)
    rw [wrap_succ i (by omega)] at h4
    have hlen : S'.length = i + 1 := by rw [h3.length_eq]; simp; omega
    have hp' : S'.Perm (x8.take (i + 1)) := by
      refine h3.trans ?_
      have e1 : x8.take (i + 1) = x8.take i ++ [rD x8 i] := by
        rw [List.take_succ_eq_append_getElem (by omega)]
        congr 2
        unfold rD rd_T36
        rw [Int.toNat_natCast, List.getD_eq_getElem?_getD, List.getElem?_eq_getElem (by omega)]
        rfl
      rw [e1, List.nil_append]
      exact (List.Perm.cons _ hp).trans (List.perm_append_comm (l₁ := [rD x8 i]))
    obtain ⟨r, g1, g2, g3⟩ := ih (i + 1) S' k' (by omega) hlen h2 hp' (by omega)
    refine ⟨r, ?_, g2, g3⟩
    simp only [spec_poSorted.l0]
    rw [if_pos (by omega), if_pos (by omega), if_pos (by omega)]
    rw [← g1, ← h4]
    rfl

theorem poSorted_tells (l : List DG) (h : l.length ≤ 100) (k : Nat) (hk : 11010 < k) : ∃ r, spec_poSorted.f k l = some r ∧ r.Pairwise leD ∧ r.Perm l :=
  ps_l0 l h l.length 0 [] k (by omega) rfl List.Pairwise.nil (by simp) (by omega)

theorem cmpD_neg (a b c d : Int) : cmpD a b c d < 0 ↔ lessB a b c d = true := by
  have := cmpD_nonneg a b c d
  cases h : lessB a b c d
  · rw [h] at this
    simp only [true_iff, iff_true] at this
    simp only [Bool.false_eq_true, iff_false]
    omega
  · rw [h] at this
    simp only [Bool.true_eq_false, iff_false] at this
    simp only [iff_true]
    omega
theorem swap_set (A : List DG) (z d : DG) (R : List DG) : ((A ++ z :: d :: R).set (A.length + 1) z).set A.length d = A ++ d :: z :: R := by
  induction A with
  | nil => rfl
  | cons x A ih => simpa using ih

theorem ins_l1 (n : Int) (d : DG) (C : List DG) (m : Nat) : ∀ (A B : List DG) (k : Nat) (i : Nat), A.length = m → (A ++ B).Pairwise leD → (∀ x ∈ B, leD d x) → i = A.length + B.length → i ≤ 1000 → m + 8 < k →
    ∃ S k', k ≤ k' + m + 1 ∧ S.Pairwise leD ∧ S.Perm (A ++ d :: B) ∧ impl_Diagonal_126_s3.l1 k (A ++ d :: (B ++ C)) 0 n (i : Int) (m : Int) = impl_Diagonal_126_s3.l0 k' (S ++ C) 0 n ((i : Int) + 1) := by
  induction m with
  | zero =>
    intro A B k i hA hs hB hi hi2 hk
    obtain ⟨k, rfl⟩ : ∃ q, k = q + 1 := ⟨k - 1, by omega⟩
    have : A = [] := List.length_eq_zero_iff.1 hA
    subst this
    have w : wrap64 ((i : Int) + 1) = (i : Int) + 1 := by unfold wrap64; omega
    refine ⟨d :: B, k, by omega, sorted_ins hs (by simp) hB, List.Perm.refl _, ?_⟩
    simp only [impl_Diagonal_126_s3.l1]
    rw [if_neg (by omega), w]
    rfl
  | succ m ih =>
    intro A B k i hA hs hB hi hi2 hk
    obtain ⟨k, rfl⟩ : ∃ q, k = q + 1 := ⟨k - 1, by omega⟩
    rcases List.eq_nil_or_concat A with e | ⟨A', z, e⟩
    · subst e
      simp at hA
    · rw [List.concat_eq_append] at e
      subst e
      rw [List.length_append, List.length_singleton] at hA hi
      have w0 : wrap64 ((i : Int) + 1) = (i : Int) + 1 := by unfold wrap64; omega
      have w1 : wrap64 (((m + 1 : Nat) : Int) - 1) = (m : Int) := by unfold wrap64; omega
      have el : A' ++ [z] ++ d :: (B ++ C) = A' ++ z :: d :: (B ++ C) := by simp
      have r1 : rd_T36 (A' ++ z :: d :: (B ++ C)) ((m + 1 : Nat) : Int) = d := by
        rw [← el]
        exact rT_mid _ _ _ _ (by rw [List.length_append, List.length_singleton]; omega)
      have r2 : rd_T36 (A' ++ z :: d :: (B ++ C)) (m : Int) = z := rT_mid _ _ _ _ (by omega)
      have hlen : (A' ++ z :: d :: (B ++ C)).length = A'.length + (B.length + C.length + 2) := by simp
      rw [el]
      simp only [impl_Diagonal_126_s3.l1]
      rw [if_pos (by omega), if_pos (by omega), if_pos (by rw [hlen]; omega), w1, if_pos (by omega), if_pos (by rw [hlen]; omega), r1, r2, compareDiagonals_tells _ _ _ _ k (by omega), Option.bind_some, w0]
      by_cases hc : cmpD d.f0 d.f1 z.f0 z.f1 < 0
      · rw [if_pos hc]
        have hlt := (cmpD_neg _ _ _ _).1 hc
        simp only [lessB, decide_eq_true_eq] at hlt
        have hsw : ((A' ++ z :: d :: (B ++ C)).set ((m + 1 : Nat) : Int).toNat ⟨z.f0, z.f1⟩).set (m : Int).toNat ⟨d.f0, d.f1⟩ = A' ++ d :: ((z :: B) ++ C) := by
          rw [Int.toNat_natCast, Int.toNat_natCast, show m = A'.length by omega]
          exact swap_set A' z d (B ++ C)
        rw [hsw]
        rw [List.append_assoc] at hs
        obtain ⟨S, k', h1, h2, h3, h4⟩ := ih A' (z :: B) k i (by omega) (by simpa using hs) (by
          intro x hx
          have hdz : leD d z := by unfold leD; omega
          rcases List.mem_cons.1 hx with e | e
          · rw [e]
            exact hdz
          · exact hB x e) (by simp; omega) hi2 (by omega)
        refine ⟨S, k', by omega, h2, h3.trans ?_, h4⟩
        have : (A' ++ [z] ++ d :: B) = A' ++ z :: d :: B := by simp
        rw [this]
        exact List.Perm.append_left A' (List.Perm.swap z d B)
      · rw [if_neg hc]
        have hzd : leD z d := by
          have := mt (cmpD_neg _ _ _ _).2 hc
          simp only [lessB, decide_eq_true_eq] at this
          unfold leD
          omega
        refine ⟨A' ++ [z] ++ d :: B, k, by omega, ?_, List.Perm.refl _, ?_⟩
        · refine sorted_ins hs (fun x hx => ?_) hB
          rcases List.mem_append.1 hx with e | e
          · have h5 := (List.pairwise_append.1 (List.pairwise_append.1 hs).1).2.2 x e z (by simp)
            exact leD_trans h5 hzd
          · rw [List.mem_singleton] at e
            rw [e]
            exact hzd
        · simp

theorem ins_l0 (n : Nat) (hn : n ≤ 12) (C : List DG) : ∀ (S : List DG) (k : Nat), S.Pairwise leD → 0 < S.length → S.length + C.length = n → 25 * C.length + 25 < k →
    ∃ r, impl_Diagonal_126_s3.l0 k (S ++ C) 0 (n : Int) (S.length : Int) = some r ∧ r.Pairwise leD ∧ r.Perm (S ++ C) := by
  induction C with
  | nil =>
    intro S k hs h0 hl hk
    obtain ⟨k, rfl⟩ : ∃ q, k = q + 1 := ⟨k - 1, by omega⟩
    refine ⟨S, ?_, hs, by simp⟩
    simp only [impl_Diagonal_126_s3.l0, List.append_nil]
    rw [if_neg (by simp at hl; omega)]
  | cons d C ih =>
    intro S k hs h0 hl hk
    rw [List.length_cons] at hl hk
    obtain ⟨k, rfl⟩ : ∃ q, k = q + 1 := ⟨k - 1, by omega⟩
    obtain ⟨S', k', h1, h2, h3, h4⟩ := ins_l1 (n : Int) d C S.length S [] k S.length rfl (by simpa using hs) (by simp) (by simp) (by omega) (by omega)
    have hlen : S'.length = S.length + 1 := by rw [h3.length_eq]; simp
    obtain ⟨r, g1, g2, g3⟩ := ih S' k' h2 (by omega) (by omega) (by omega)
    refine ⟨r, ?_, g2, g3.trans ?_⟩
    · simp only [impl_Diagonal_126_s3.l0]
      rw [if_pos (by omega)]
      rw [show (S'.length : Int) = (S.length : Int) + 1 by omega] at g1
      rw [← g1, ← h4]
      simp
    · have := List.Perm.append_right C h3
      simpa using this

theorem len12 (k : Nat) (L : Nat) (h : L ≤ 12) : ∃ r, bits_Len.f (k + 1) (IntKind.u64.wrap (L : Int)) = some r := by
  have : L = 0 ∨ L = 1 ∨ L = 2 ∨ L = 3 ∨ L = 4 ∨ L = 5 ∨ L = 6 ∨ L = 7 ∨ L = 8 ∨ L = 9 ∨ L = 10 ∨ L = 11 ∨ L = 12 := by omega
  rcases this with rfl | rfl | rfl | rfl | rfl | rfl | rfl | rfl | rfl | rfl | rfl | rfl | rfl <;> exact ⟨_, rfl⟩

theorem sortFunc_tells (l : List DG) (h : l.length ≤ 12) (k : Nat) (hk : 400 < k) : ∃ r, impl_Diagonal_114_s6.f k l = some r ∧ r.Pairwise leD ∧ r.Perm l := by
  obtain ⟨k, rfl⟩ : ∃ q, k = q + 1 := ⟨k - 1, by omega⟩
  obtain ⟨q, hq⟩ := len12 k l.length h
  have w : wrap64 (0 + 1) = 1 := by unfold wrap64; omega
  unfold impl_Diagonal_114_s6.f impl_Diagonal_123.f
  rw [hq]
  simp only [Option.bind_some]
  rw [if_pos (by omega)]
  unfold impl_Diagonal_126_s3.f
  rw [w]
  cases l with
  | nil =>
    refine ⟨[], ?_, List.Pairwise.nil, List.Perm.refl _⟩
    rfl
  | cons d C =>
    obtain ⟨r, g1, g2, g3⟩ := ins_l0 (C.length + 1) h C [d] (k + 1) (by simp) (by simp) (by simp; omega) (by simp at h; omega)
    refine ⟨r, ?_, g2, g3⟩
    have e : impl_Diagonal_126_s3.l0 (k + 1) (d :: C) 0 ((d :: C).length : Int) 1 = some r := g1
    rw [e]
    rfl


def mapT (τ : Int → Int) (d : DG) : DG := ⟨min (τ d.f0) (τ d.f1), max (τ d.f0) (τ d.f1)⟩
theorem poMap_rounds (N : List Int) (l : List DG) (hl : l.length ≤ 100) (hd : ∀ d ∈ l, 0 ≤ d.f0 ∧ d.f0 < (N.length : Int) ∧ 0 ≤ d.f1 ∧ d.f1 < (N.length : Int)) (e : Nat) : ∀ (i k : Nat) (acc : List DG), i + e = l.length → acc.length = i → e < k →
    spec_poMap.l0 k N acc l (l.length : Int) (i : Int) = (spec_poSorted.f (k - e - 1) (acc ++ (l.drop i).map (mapT (rd N)))).bind fun t => some t := by
  induction e with
  | zero =>
    intro i k acc hi hacc hk
    obtain ⟨k, rfl⟩ : ∃ q, k = q + 1 := ⟨k - 1, by omega⟩
    simp only [spec_poMap.l0]
    rw [if_neg (by omega), List.drop_of_length_le (by omega), List.map_nil, List.append_nil]
    rfl
  | succ e ih =>
    intro i k acc hi hacc hk
    obtain ⟨k, rfl⟩ : ∃ q, k = q + 1 := ⟨k - 1, by omega⟩
    have hm : rD l i ∈ l := by
      have : rD l i ∈ l.drop i := by
        rw [rD_drop l i (by omega)]
        exact List.mem_cons_self ..
      exact List.mem_of_mem_drop this
    have hok := hd _ hm
    simp only [spec_poMap.l0]
    rw [if_pos (by omega), if_pos (by omega), if_pos (by omega), if_pos hok.1, if_pos hok.2.1, if_pos hok.2.2.1, if_pos hok.2.2.2, least_tells, most_tells]
    simp only [Option.bind_some]
    rw [if_pos (by omega), wrap_succ i (by omega), rD_drop l i (by omega), List.map_cons, show k + 1 - (e + 1) - 1 = k - e - 1 by omega, ih (i + 1) k _ (by omega) (by rw [List.length_append, List.length_singleton]; omega) (by omega)]
    simp [mapT]
theorem poMap_tells (N : List Int) (l : List DG) (hl : l.length ≤ 100) (hd : ∀ d ∈ l, 0 ≤ d.f0 ∧ d.f0 < (N.length : Int) ∧ 0 ≤ d.f1 ∧ d.f1 < (N.length : Int)) (k : Nat) (hk : 11200 < k) : ∃ r, spec_poMap.f k l N = some r ∧ r.Pairwise leD ∧ r.Perm (l.map (mapT (rd N))) := by
  have h := poMap_rounds N l hl hd l.length 0 k [] (by omega) rfl (by omega)
  rw [List.drop_zero, List.nil_append] at h
  obtain ⟨r, h1, h2, h3⟩ := poSorted_tells (l.map (mapT (rd N))) (by rw [List.length_map]; exact hl) (k - l.length - 1) (by omega)
  refine ⟨r, ?_, h2, h3⟩
  unfold spec_poMap.f
  rw [show ((0 : Nat) : Int) = 0 from rfl] at h
  rw [h, h1]
  rfl

theorem rd_app (l : List Int) (v i : Int) (hi : 0 ≤ i) (h : i ≤ (l.length : Int)) : rd (l ++ [v]) i = if i = (l.length : Int) then v else rd l i := by
  unfold rd
  rw [List.getD_eq_getElem?_getD, List.getD_eq_getElem?_getD]
  by_cases e : i = (l.length : Int)
  · rw [if_pos e, e, Int.toNat_natCast]
    simp
  · rw [if_neg e, List.getElem?_append_left (by omega)]

def conv36 (x : S35) : S36 := ⟨x.f0, x.f1⟩
theorem toS36_rounds (x0 : List S35) (hl : x0.length ≤ 1048576) (d : Nat) : ∀ (i k : Nat) (x3 : List S36), x3.length = x0.length → i + d = x0.length → d < k →
    laws_toDiagonalS.l0 k x0 x3 (i : Int) = some (x3.take i ++ (x0.drop i).map conv36) := by
  induction d with
  | zero =>
    intro i k x3 h3 hi hk
    obtain ⟨k, rfl⟩ : ∃ m, k = m + 1 := ⟨k - 1, by omega⟩
    simp only [laws_toDiagonalS.l0]
    rw [if_neg (by omega), List.drop_of_length_le (by omega), List.take_of_length_le (by omega), List.map_nil, List.append_nil]
  | succ d ih =>
    intro i k x3 h3 hi hk
    obtain ⟨k, rfl⟩ : ∃ m, k = m + 1 := ⟨k - 1, by omega⟩
    simp only [laws_toDiagonalS.l0, laws_toDiagonal.f, Option.bind_some]
    rw [if_pos (by omega), if_pos (by omega), if_pos (by omega), wrap_succ i (by omega), ih (i + 1) k _ (by rw [List.length_set]; exact h3) (by omega) (by omega), Int.toNat_natCast, take_set_succ _ _ _ (by omega), getD_drop x0 z35 i (by omega), List.map_cons]
    simp [rd_T35, conv36]
theorem toS36_tells (x0 : List S35) (hl : x0.length ≤ 1048576) : Ev (fun k => laws_toDiagonalS.f k x0) (x0.map conv36) := by
  refine ⟨x0.length + 1, fun k hk => ?_⟩
  show laws_toDiagonalS.f k x0 = _
  unfold laws_toDiagonalS.f
  rw [if_pos (by omega), if_pos (by omega), Int.toNat_natCast]
  have h := toS36_rounds x0 hl x0.length 0 k (List.replicate x0.length z36) (by simp) (by omega) (by omega)
  simpa using h
theorem eqS36_rounds (l : List S36) (hl : l.length ≤ 4611686018427387904) (d : Nat) : ∀ (i k : Nat), i + d = l.length → d < k → laws_eqDiagonalS.l0 k l l (i : Int) = some true := by
  induction d with
  | zero =>
    intro i k hi hk
    obtain ⟨k, rfl⟩ : ∃ m, k = m + 1 := ⟨k - 1, by omega⟩
    simp only [laws_eqDiagonalS.l0]
    rw [if_neg (by omega)]
  | succ d ih =>
    intro i k hi hk
    obtain ⟨k, rfl⟩ : ∃ m, k = m + 1 := ⟨k - 1, by omega⟩
    simp only [laws_eqDiagonalS.l0, laws_eqDiagonal.f, if_true, Option.bind_some]
    rw [if_pos (by omega), if_pos (by omega), if_pos (by omega), wrap_succ i (by omega)]
    exact ih (i + 1) k (by omega) (by omega)
theorem eqS36_tells (l : List S36) (hl : l.length ≤ 4611686018427387904) : Ev (fun k => laws_eqDiagonalS.f k l l) true := by
  refine ⟨l.length + 1, fun k hk => ?_⟩
  show laws_eqDiagonalS.f k l l = _
  unfold laws_eqDiagonalS.f
  rw [if_pos rfl]
  exact eqS36_rounds l hl l.length 0 k (by omega) (by omega)
theorem sz36_tells (l : List S35) (n : Int) (h0 : 0 ≤ n) (h1 : n ≤ 1048576) (hl : l.length ≤ 4611686018427387904) : laws_szDiagonalS.f l n = some (if n - (l.length : Int) < 0 then -1 else n - (l.length : Int)) := by
  unfold laws_szDiagonalS.f
  have w : wrap64 (n - (l.length : Int)) = n - (l.length : Int) := by unfold wrap64; omega
  rw [w]
  split <;> rfl
theorem sz36_any (l : List S35) (n : Int) (h0 : 0 ≤ n) (h1 : n ≤ 1048576) (hl : l.length ≤ maxLen) : ∃ r, laws_szDiagonalS.f l n = some r ∧ (r < 0 ∨ (0 ≤ r ∧ r = n - (l.length : Int))) := by
  unfold maxLen at hl
  unfold laws_szDiagonalS.f
  by_cases h : wrap64 (n - (l.length : Int)) < 0
  · rw [if_pos h]
    exact ⟨_, rfl, .inl (by omega)⟩
  · rw [if_neg h]
    have w : wrap64 (n - (l.length : Int)) = n - (l.length : Int) := by unfold wrap64 at h ⊢; omega
    exact ⟨_, rfl, .inr ⟨by omega, w⟩⟩

def iota36 : Int → Nat → List S36
  | _, 0 => []
  | v, m + 1 => ⟨v, v + 1⟩ :: iota36 (v + 2) m
theorem iota36_len : ∀ (m : Nat) (v : Int), (iota36 v m).length = m
  | 0, _ => rfl
  | m + 1, v => by rw [iota36, List.length_cons, iota36_len m]
theorem mark36_rounds (l : List S36) (hl : l.length ≤ 1048576) (e : Nat) : ∀ (i k : Nat) (P R : List S36) (v0 v : Int), P.length = i → R.length = e → i + e = l.length → 0 ≤ v0 → v0 ≤ 100000000 → v = v0 + 2 * (i : Int) → e < k →
    laws_markDiagonalS.l0 k (P ++ R) v (i : Int) = some (v0 + 2 * (l.length : Int), P ++ iota36 v e) := by
  induction e with
  | zero =>
    intro i k P R v0 v hP hR hi h00 h01 hv hk
    obtain ⟨k, rfl⟩ : ∃ q, k = q + 1 := ⟨k - 1, by omega⟩
    have : R = [] := List.length_eq_zero_iff.1 hR
    subst this
    simp only [laws_markDiagonalS.l0, List.append_nil, iota36]
    rw [if_neg (by omega), hv, show i = l.length by omega]
  | succ e ih =>
    intro i k P R v0 v hP hR hi h00 h01 hv hk
    obtain ⟨k, rfl⟩ : ∃ q, k = q + 1 := ⟨k - 1, by omega⟩
    cases R with
    | nil => simp at hR
    | cons x R =>
      rw [List.length_cons] at hR
      have w1 : wrap64 (v + 1) = v + 1 := by unfold wrap64; omega
      have w2 : wrap64 (v + 1 + 1) = v + 2 := by unfold wrap64; omega
      have s1 : ∀ y z : S36, (P ++ y :: R).set i z = P ++ z :: R := by
        intro y z
        rw [List.set_append_right _ _ (by omega), hP, Nat.sub_self]
        rfl
      have r1 : ∀ y : S36, rd_T36 (P ++ y :: R) (i : Int) = y := by
        intro y
        unfold rd_T36
        rw [Int.toNat_natCast, List.getD_eq_getElem?_getD, ← hP]
        simp
      simp only [laws_markDiagonalS.l0, Int.toNat_natCast, Option.bind_some, s1, r1, w1, w2]
      rw [if_pos (by rw [List.length_append, List.length_cons]; omega), if_pos (by omega), wrap_succ i (by omega)]
      have h := ih (i + 1) k (P ++ [⟨v, v + 1⟩]) R v0 (v + 2) (by rw [List.length_append, List.length_singleton]; omega) (by omega) (by omega) h00 h01 (by omega) (by omega)
      rw [iota36]
      simpa using h
theorem mark36_any (l : List S36) (hl : l.length ≤ 1048576) (v : Int) (h0 : 0 ≤ v) (h1 : v ≤ 100000000) (k : Nat) (hk : l.length < k) : laws_markDiagonalS.f k l v = some (v + 2 * (l.length : Int), iota36 v l.length) := by
  have h := mark36_rounds l hl l.length 0 k [] l v v rfl rfl (by omega) h0 h1 (by omega) hk
  unfold laws_markDiagonalS.f
  simpa using h
theorem mark36_tells (l : List S36) (hl : l.length ≤ 1048576) (k : Nat) (hk : l.length < k) : laws_markDiagonalS.f k l 1 = some (1 + 2 * (l.length : Int), iota36 1 l.length) :=
  mark36_any l hl 1 (by omega) (by omega) k hk

theorem held36_rounds (L : Nat) (hl : L ≤ 1048576) (e : Nat) : ∀ (i k : Nat) (P : List S36) (v : Int), P.length = i → i + e = L → v = 1 + 2 * (i : Int) → e < k →
    laws_heldDiagonalS.l0 k (P ++ iota36 v e) v (i : Int) = some (1 + 2 * (L : Int)) := by
  induction e with
  | zero =>
    intro i k P v hP hi hv hk
    obtain ⟨k, rfl⟩ : ∃ q, k = q + 1 := ⟨k - 1, by omega⟩
    simp only [laws_heldDiagonalS.l0, iota36, List.append_nil]
    rw [if_neg (by omega), hv, show i = L by omega]
  | succ e ih =>
    intro i k P v hP hi hv hk
    obtain ⟨k, rfl⟩ : ∃ q, k = q + 1 := ⟨k - 1, by omega⟩
    have w1 : wrap64 (v + 1) = v + 1 := by unfold wrap64; omega
    have w2 : wrap64 (v + 1 + 1) = v + 2 := by unfold wrap64; omega
    have r1 : rd_T36 (P ++ iota36 v (e + 1)) (i : Int) = ⟨v, v + 1⟩ := by
      unfold rd_T36
      rw [Int.toNat_natCast, List.getD_eq_getElem?_getD, ← hP, iota36]
      simp
    simp only [laws_heldDiagonalS.l0, r1, w1, w2, if_true]
    rw [if_pos (by rw [List.length_append, iota36_len]; omega), if_pos (by omega), wrap_succ i (by omega)]
    have h := ih (i + 1) k (P ++ [⟨v, v + 1⟩]) (v + 2) (by rw [List.length_append, List.length_singleton]; omega) (by omega) (by omega) (by omega)
    rw [iota36]
    simpa using h
theorem held36_tells (L : Nat) (hl : L ≤ 1048576) (k : Nat) (hk : L < k) : laws_heldDiagonalS.f k (iota36 1 L) 1 = some (1 + 2 * (L : Int)) := by
  have h := held36_rounds L hl L 0 k [] 1 rfl (by omega) (by omega) hk
  unfold laws_heldDiagonalS.f
  simpa using h

theorem turn_rounds (n K : Int) (hn : 3 ≤ n ∧ n ≤ 12) (l : List DG) (e : Nat) : ∀ (i : Nat) (acc : List Int), (i : Int) + e = n → acc.length = i → (∀ j : Int, 0 ≤ j → j < (i : Int) → rd acc j = Int.tmod (wrap64 (j + K)) n) →
    ∃ N : List Int, (N.length : Int) = n ∧ (∀ j : Int, 0 ≤ j → j < n → rd N j = Int.tmod (wrap64 (j + K)) n) ∧ ∀ k, e < k → spec_poTurn.l0 k n l K acc (i : Int) = (spec_poMap.f (k - e - 1) l N).bind fun t => some t := by
  induction e with
  | zero =>
    intro i acc hi hacc h
    refine ⟨acc, by omega, fun j j1 j2 => h j j1 (by omega), fun k hk => ?_⟩
    obtain ⟨k, rfl⟩ : ∃ q, k = q + 1 := ⟨k - 1, by omega⟩
    simp only [spec_poTurn.l0]
    rw [if_neg (by omega)]
    rfl
  | succ e ih =>
    intro i acc hi hacc h
    obtain ⟨N, h1, h2, h3⟩ := ih (i + 1) (acc ++ [Int.tmod (wrap64 ((i : Int) + K)) n]) (by omega) (by rw [List.length_append, List.length_singleton]; omega) (by
      intro j j1 j2
      rw [rd_app _ _ _ j1 (by omega)]
      by_cases e0 : j = (acc.length : Int)
      · rw [if_pos e0, show (i : Int) = j by omega]
      · rw [if_neg e0]
        exact h j j1 (by omega))
    refine ⟨N, h1, h2, fun k hk => ?_⟩
    obtain ⟨k, rfl⟩ : ∃ q, k = q + 1 := ⟨k - 1, by omega⟩
    simp only [spec_poTurn.l0]
    rw [if_pos (by omega), if_neg (by omega), if_pos (by omega), wrap_succ i (by omega), show k + 1 - (e + 1) - 1 = k - e - 1 by omega]
    exact h3 k (by omega)
theorem renamed_rounds (n K : Int) (hn : 3 ≤ n ∧ n ≤ 12) (l : List DG) (hl : l.length ≤ 12) (e : Nat) : ∀ (i k : Nat) (acc : List DG), i + e = l.length → acc.length = i → e < k →
    impl_renamed_s4.l0 k acc l (l.length : Int) (i : Int) K n = (impl_Diagonal_114_s6.f (k - e - 1) (acc ++ (l.drop i).map (mapT fun c => Int.tmod (wrap64 (c + K)) n))).bind fun t => some t := by
  induction e with
  | zero =>
    intro i k acc hi hacc hk
    obtain ⟨k, rfl⟩ : ∃ q, k = q + 1 := ⟨k - 1, by omega⟩
    simp only [impl_renamed_s4.l0]
    rw [if_neg (by omega), List.drop_of_length_le (by omega), List.map_nil, List.append_nil]
    rfl
  | succ e ih =>
    intro i k acc hi hacc hk
    obtain ⟨k, rfl⟩ : ∃ q, k = q + 1 := ⟨k - 1, by omega⟩
    have m1 : ∀ a b : Int, mn a b = min a b := fun a b => by unfold mn; split <;> omega
    have m2 : ∀ a b : Int, mx a b = max a b := fun a b => by unfold mx; split <;> omega
    have t1 : ∀ c : Int, impl_turned_1_s5.f c K n = some (Int.tmod (wrap64 (c + K)) n) := by
      intro c
      unfold impl_turned_1_s5.f
      rw [if_neg (by omega)]
    simp only [impl_renamed_s4.l0, t1, m1, m2]
    rw [if_pos (by omega), if_pos (by omega), if_pos (by omega)]
    simp only [Option.bind_some]
    rw [if_pos (by omega), wrap_succ i (by omega), rD_drop l i (by omega), List.map_cons, show k + 1 - (e + 1) - 1 = k - e - 1 by omega, ih (i + 1) k _ (by omega) (by rw [List.length_append, List.length_singleton]; omega) (by omega)]
    simp [mapT]

/-- What both return. -/
theorem both (n : Int) (C : List DG) (K : Int) (hc : C.length ≤ 1048576) : ∃ M r ok, r.length ≤ 1048576 ∧ ∀ k, M ≤ k → spec_TurnCut.f k n C K = some (r, ok) ∧ impl_TurnCut.f k n C K = some (r, ok) := by
  obtain ⟨M, e1, e2⟩ := Ev.at2 (cuGood_tells n C (by omega)) (isCut_tells n C (by omega))
  have E1 : ∀ k, M ≤ k → spec_cuGood.f k n C = some (isCutB n C) := fun k hk => by rw [show k = M + (k - M) by omega]; exact e1 _
  have E2 : ∀ k, M ≤ k → impl_IsCut.f k n C = some (isCutB n C) := fun k hk => by rw [show k = M + (k - M) by omega]; exact e2 _
  cases ht : isCutB n C
  · refine ⟨M, [], false, by simp, fun k hk => ?_⟩
    simp [spec_TurnCut.f, impl_TurnCut.f, E1 k hk, E2 k hk, ht]
  · obtain ⟨hn, hl, hok⟩ := cut_ok n C ht
    have w : wrap64 (n - 1) = n - 1 := by unfold wrap64; omega
    by_cases hK : 0 ≤ K ∧ K ≤ n - 1
    · obtain ⟨N, n1, n2, n3⟩ := turn_rounds n K hn C n.toNat 0 [] (by omega) rfl (by omega)
      have hin : ∀ d ∈ C, 0 ≤ d.f0 ∧ d.f0 < (N.length : Int) ∧ 0 ≤ d.f1 ∧ d.f1 < (N.length : Int) := fun d hd => by have := hok d hd; omega
      have hmap : C.map (mapT (rd N)) = C.map (mapT fun c => Int.tmod (wrap64 (c + K)) n) := by
        apply List.map_congr_left
        intro d hd
        have := hok d hd
        unfold mapT
        rw [n2 d.f0 (by omega) (by omega), n2 d.f1 (by omega) (by omega)]
      obtain ⟨r, _, r1, r2⟩ := poMap_tells N C (by omega) hin 20000 (by omega)
      have hrl : r.length = C.length := by rw [r2.length_eq, List.length_map]
      refine ⟨M + 20050, r, true, by omega, fun k hk => ⟨?_, ?_⟩⟩
      · obtain ⟨r', q1, q2, q3⟩ := poMap_tells N C (by omega) hin (k - n.toNat - 1) (by omega)
        have er : r' = r := sorted_unique (q3.trans r2.symm) q2 r1
        have h3 := n3 k (by omega)
        rw [show ((0 : Nat) : Int) = 0 from rfl, q1, er, Option.bind_some] at h3
        simp only [spec_TurnCut.f, E1 k (by omega), ht, Option.bind_some, if_true, l1In_tells, w, decide_eq_true hK, spec_poTurn.f, h3]
      · have h3 := renamed_rounds n K hn C (by omega) C.length 0 k [] (by omega) rfl (by omega)
        obtain ⟨r', q1, q2, q3⟩ := sortFunc_tells ((C.map (mapT fun c => Int.tmod (wrap64 (c + K)) n))) (by rw [List.length_map]; omega) (k - C.length - 1) (by omega)
        have er : r' = r := sorted_unique (q3.trans (by rw [← hmap]; exact r2.symm)) q2 r1
        rw [show ((0 : Nat) : Int) = 0 from rfl, List.drop_zero, List.nil_append, q1, er, Option.bind_some] at h3
        simp only [impl_TurnCut.f, E2 k (by omega), ht, Option.bind_some, if_true, within_tells, w, decide_eq_true hK, impl_turned.f, impl_renamed_s4.f, h3]
    · refine ⟨M, [], false, by simp, fun k hk => ?_⟩
      simp only [spec_TurnCut.f, impl_TurnCut.f, E1 k hk, E2 k hk, ht, Option.bind_some, if_true, l1In_tells, within_tells, w, decide_eq_false hK, Bool.false_eq_true, if_false]
      exact ⟨trivial, trivial⟩

theorem FnExactTurnCut (n : Int) (l : List S35) (b : Int) (_ : (Lit.int .i64 n).wf = true) (hm : l.length ≤ maxLen) (_ : ∀ y ∈ l, (Lit.int .i64 y.f0).wf = true ∧ (Lit.int .i64 y.f1).wf = true) (_ : (Lit.int .i64 b).wf = true) :
    ∃ k, laws_FnExactTurnCut.f k n l b = some true := by
  obtain ⟨q, hr, hr2⟩ := sz36_any l 1048576 (by omega) (by omega) hm
  rcases hr2 with hr2 | ⟨hr2, hr3⟩
  · refine ⟨0, ?_⟩
    unfold laws_FnExactTurnCut.f
    rw [hr, Option.bind_some, if_pos hr2]
  · obtain ⟨C, hC⟩ : ∃ C, C = l.map conv36 := ⟨_, rfl⟩
    have hc : C.length ≤ 1048576 := by rw [hC, List.length_map]; omega
    obtain ⟨K1, r, ok, hrl, hb⟩ := both n C b hc
    obtain ⟨K2, e0, e1, e2⟩ := Ev.at3 (toS36_tells l (by omega)) (eqS36_tells C (by omega)) (eqS36_tells r (by omega))
    simp only [← hC] at e0
    obtain ⟨M, hM⟩ : ∃ M, M = K1 + (K2 + (C.length + (r.length + 1))) := ⟨_, rfl⟩
    have b1 : ∀ j, spec_TurnCut.f (M + j) n C b = some (r, ok) := fun j => (hb (M + j) (by omega)).1
    have b2 : ∀ j, impl_TurnCut.f (M + j) n C b = some (r, ok) := fun j => (hb (M + j) (by omega)).2
    have b3 : ∀ j, laws_toDiagonalS.f (M + j) l = some C := fun j => by rw [show M + j = K2 + (M + j - K2) by omega]; exact e0 _
    have b4 : ∀ j, laws_eqDiagonalS.f (M + j) C C = some true := fun j => by rw [show M + j = K2 + (M + j - K2) by omega]; exact e1 _
    have b5 : ∀ j, laws_eqDiagonalS.f (M + j) r r = some true := fun j => by rw [show M + j = K2 + (M + j - K2) by omega]; exact e2 _
    have b6 : ∀ j, laws_markDiagonalS.f (M + j) C 1 = _ := fun j => mark36_tells C hc (M + j) (by omega)
    have b7 : ∀ j, laws_markDiagonalS.f (M + j) r 1 = _ := fun j => mark36_tells r hrl (M + j) (by omega)
    have b8 : ∀ j, laws_heldDiagonalS.f (M + j) (iota36 1 r.length) 1 = _ := fun j => held36_tells r.length hrl (M + j) (by omega)
    have j2 : laws_FnExactTurnCut.j2 (M + 2) (iota36 1 r.length) (1 + 2 * (r.length : Int)) false = some true := by
      simp only [laws_FnExactTurnCut.j2, b8, Option.bind_some, Bool.false_eq_true, if_false, if_true]
      rw [if_neg (by omega)]
    have j1 : laws_FnExactTurnCut.j1 (M + 3) n l b r ok r false = some true := by
      simp only [laws_FnExactTurnCut.j1, b7, b8, b3, b2, b5, Option.bind_some, Bool.false_eq_true, if_false, if_true]
      rw [if_neg (by omega), bne_self_eq_false]
      exact j2
    have j0 : laws_FnExactTurnCut.j0 (M + 4) n l b r ok C r ok false = some true := by
      simp only [laws_FnExactTurnCut.j0, b3, b4, b5, b6, Option.bind_some, Bool.false_eq_true, if_false, if_true]
      rw [if_neg (by omega), bne_self_eq_false]
      exact j1
    refine ⟨M + 4, ?_⟩
    simp only [laws_FnExactTurnCut.f, hr, Option.bind_some, b1, b2, b3, b5, if_true]
    rw [if_neg (by omega), bne_self_eq_false]
    exact j0

end Go.Proofs.Ytkipgbakoljaeaa.PureFnExactTurnCut
