/- The program's CrossingsBetween and the reference's return the same for every number of corners and every two lists of pairs of numbers that the statement lets in: both ask whether both lists are triangulations and count the pairs that cross; the program leaves the lists as they were. No condition. -/
import Derived.Test.YtnikefebkcminaaPFnExactCrossingsBetweenx0
import Derived.Test.YtnikefebkcminaaPFnExactCrossingsBetweenx1
import Derived.Test.YtnikefebkcminaaPFnExactCrossingsBetweenx2
import Derived.Test.YtnikefebkcminaaPFnExactCrossingsBetweenx3
import Derived.Test.YtnikefebkcminaaPFnExactCrossingsBetweenx4
import Derived.Test.YtnikefebkcminaaPFnExactCrossingsBetweenx5
import Derived.Test.YtnikefebkcminaaPFnExactCrossingsBetweenx6
set_option linter.unusedSimpArgs false
set_option linter.unusedVariables false
namespace Go.Proofs.Ytnikefebkcminaa.PureFnExactCrossingsBetween
open Go.RowKit Go.Proofs.Ytnikefebkcminaa.PFnExactCrossingsBetween Go.Proofs.YtnikefebkcminaaW.PrintWords Go.Proofs.YtnikefebkcminaaW.PrintLast

theorem Ev.at1 {α : Type} {g : Nat → Option α} {r : α} (h : Ev g r) : ∃ K, ∀ j, g (K + j) = some r := by
  obtain ⟨K, h⟩ := h
  exact ⟨K, fun j => h _ (by omega)⟩
theorem Ev.at2 {α β : Type} {g : Nat → Option α} {r : α} {g2 : Nat → Option β} {r2 : β} (h : Ev g r) (h2 : Ev g2 r2) : ∃ K, (∀ j, g (K + j) = some r) ∧ ∀ j, g2 (K + j) = some r2 := by
  obtain ⟨K, h⟩ := h
  obtain ⟨K2, h2⟩ := h2
  exact ⟨K + K2, fun j => h _ (by omega), fun j => h2 _ (by omega)⟩
theorem Ev.at3 {α β γ : Type} {g : Nat → Option α} {r : α} {g2 : Nat → Option β} {r2 : β} {g3 : Nat → Option γ} {r3 : γ} (h : Ev g r) (h2 : Ev g2 r2) (h3 : Ev g3 r3) :
    ∃ K, (∀ j, g (K + j) = some r) ∧ (∀ j, g2 (K + j) = some r2) ∧ ∀ j, g3 (K + j) = some r3 := by
  obtain ⟨K, h⟩ := h
  obtain ⟨K2, h2⟩ := h2
  obtain ⟨K3, h3⟩ := h3
  exact ⟨K + K2 + K3, fun j => h _ (by omega), fun j => h2 _ (by omega), fun j => h3 _ (by omega)⟩
theorem Ev.at4 {α β γ δ : Type} {g : Nat → Option α} {r : α} {g2 : Nat → Option β} {r2 : β} {g3 : Nat → Option γ} {r3 : γ} {g4 : Nat → Option δ} {r4 : δ} (h : Ev g r) (h2 : Ev g2 r2) (h3 : Ev g3 r3) (h4 : Ev g4 r4) :
    ∃ K, (∀ j, g (K + j) = some r) ∧ (∀ j, g2 (K + j) = some r2) ∧ (∀ j, g3 (K + j) = some r3) ∧ ∀ j, g4 (K + j) = some r4 := by
  obtain ⟨K, e1, e2, e3⟩ := Ev.at3 h h2 h3
  obtain ⟨K4, h4⟩ := h4
  exact ⟨K + K4, fun j => by rw [Nat.add_assoc]; exact e1 _, fun j => by rw [Nat.add_assoc]; exact e2 _, fun j => by rw [Nat.add_assoc]; exact e3 _, fun j => h4 _ (by omega)⟩
theorem Ev.all {α β : Type} {g : α → Nat → Option β} {r : α → β} (l : List α) (h : ∀ x, x ∈ l → Ev (g x) (r x)) : ∃ K, ∀ x, x ∈ l → ∀ k, K ≤ k → g x k = some (r x) := by
  induction l with
  | nil => exact ⟨0, fun x hx => by cases hx⟩
  | cons y l ih =>
    obtain ⟨K, hK⟩ := ih (fun x hx => h x (List.mem_cons_of_mem _ hx))
    obtain ⟨K2, hK2⟩ := h y (List.mem_cons_self ..)
    refine ⟨K + K2, fun x hx k hk => ?_⟩
    rcases List.mem_cons.1 hx with e | e
    · subst e
      exact hK2 k (by omega)
    · exact hK x e k (by omega)

theorem take_set_succ {α : Type} (l : List α) (i : Nat) (v : α) (h : i < l.length) : (l.set i v).take (i + 1) = l.take i ++ [v] := by
  rw [List.take_succ_eq_append_getElem (by rw [List.length_set]; exact h), List.getElem_set_self, List.take_set_of_le (Nat.le_refl i)]
theorem getD_drop {α : Type} (l : List α) (d : α) (i : Nat) (h : i < l.length) : l.drop i = l.getD i d :: l.drop (i + 1) := by
  rw [List.drop_eq_getElem_cons h, List.getD_eq_getElem?_getD, List.getElem?_eq_getElem h]
  rfl
theorem wrap_succ (i : Nat) (h : i < 4611686018427387904) : wrap64 ((i : Int) + 1) = ((i + 1 : Nat) : Int) := by unfold wrap64; omega
theorem wrap_pred (i : Nat) (h0 : 0 < i) (h : i < 4611686018427387904) : wrap64 ((i : Int) - 1) = ((i - 1 : Nat) : Int) := by unfold wrap64; omega

theorem l1In_tells (a b c : Int) : spec_l1In.f a b c = some (decide (b ≤ a ∧ a ≤ c)) := by
  unfold spec_l1In.f
  by_cases h : a ≥ b
  · rw [if_pos h]
    have : b ≤ a := h
    simp [this]
  · rw [if_neg h]
    have : ¬ b ≤ a := h
    simp [this]

theorem within_tells (a b c : Int) : impl_within.f a b c = some (decide (b ≤ a ∧ a ≤ c)) := by
  unfold impl_within.f
  by_cases h : a ≥ b
  · rw [if_pos h]
    have : b ≤ a := h
    simp [this]
  · rw [if_neg h]
    have : ¬ b ≤ a := h
    simp [this]

abbrev DG := S72
abbrev rD (l : List DG) (j : Nat) : DG := rd_T72 l (j : Int)
def crossB (a b c d : Int) : Bool := decide (a < c ∧ c < b ∧ b < d) || decide (c < a ∧ a < d ∧ d < b)
def diagB (n a b : Int) : Bool := decide (0 ≤ a ∧ b ≤ n - 1 ∧ b - a ≥ 2 ∧ b - a ≤ n - 2)
def lessB (a b c d : Int) : Bool := decide (a < c ∨ (a = c ∧ b < d))
def stepD (n : Int) (l : List DG) (j : Nat) : Bool :=
  diagB n (rD l j).f0 (rD l j).f1 && ((j == 0 || lessB (rD l (j - 1)).f0 (rD l (j - 1)).f1 (rD l j).f0 (rD l j).f1) && !(l.take j).any fun e => crossB (rD l j).f0 (rD l j).f1 e.f0 e.f1)
theorem stepD_def (n : Int) (l : List DG) (j : Nat) : stepD n l j = (diagB n (rD l j).f0 (rD l j).f1 && ((j == 0 || lessB (rD l (j - 1)).f0 (rD l (j - 1)).f1 (rD l j).f0 (rD l j).f1) && !(l.take j).any fun e => crossB (rD l j).f0 (rD l j).f1 e.f0 e.f1)) := rfl
def goodD (n : Int) (l : List DG) : Bool := (List.range' 0 l.length).all (stepD n l)

theorem rD_drop (l : List DG) (i : Nat) (h : i < l.length) : l.drop i = rD l i :: l.drop (i + 1) := by
  rw [getD_drop l z72 i h]
  unfold rD rd_T72
  rw [Int.toNat_natCast]
theorem any_take_step (p : DG → Bool) (l : List DG) (i : Nat) (h : i < l.length) : (l.drop i).any p = (p (rD l i) || (l.drop (i + 1)).any p) := by
  rw [rD_drop l i h, List.any_cons]

theorem poCross_tells (a b c d : Int) : spec_poCross.f a b c d = some (crossB a b c d) := by
  unfold spec_poCross.f crossB
  repeat' split
  all_goals congr 1; rw [Bool.eq_iff_iff]; simp only [Bool.or_eq_true, decide_eq_true_eq, Bool.false_eq_true, false_iff, true_iff]; omega
theorem poLess_tells (a b c d : Int) : spec_poLess.f a b c d = some (lessB a b c d) := by
  unfold spec_poLess.f lessB
  repeat' split
  all_goals congr 1; rw [Bool.eq_iff_iff]; simp only [decide_eq_true_eq, Bool.false_eq_true, false_iff, true_iff]; omega
theorem poIs_tells (n : Int) : spec_poIs.f n = some (decide (3 ≤ n ∧ n ≤ 12)) := by
  unfold spec_poIs.f
  rw [l1In_tells]
  rfl
theorem poDiagonal_tells (n a b : Int) (h : 3 ≤ n ∧ n ≤ 12) : spec_poDiagonal.f n a b = some (diagB n a b) := by
  unfold spec_poDiagonal.f diagB
  rw [poIs_tells, l1In_tells, l1In_tells, decide_eq_true h]
  have w : wrap64 (n - 1) = n - 1 := by unfold wrap64; omega
  have w2 : wrap64 (n - 2) = n - 2 := by unfold wrap64; omega
  simp only [Option.bind_some, if_true, w, w2, decide_eq_true_eq]
  by_cases h0 : 0 ≤ a ∧ a ≤ n - 1
  · by_cases h1 : 0 ≤ b ∧ b ≤ n - 1
    · have w3 : wrap64 (b - a) = b - a := by unfold wrap64; omega
      rw [if_pos h0, if_pos h1, w3]
      split
      all_goals congr 1; rw [Bool.eq_iff_iff]; simp only [decide_eq_true_eq, Bool.false_eq_true, false_iff]; omega
    · rw [if_pos h0, if_neg h1]
      congr 1; rw [Bool.eq_iff_iff]; simp only [decide_eq_true_eq, Bool.false_eq_true, false_iff]; omega
  · rw [if_neg h0]
    congr 1; rw [Bool.eq_iff_iff]; simp only [decide_eq_true_eq, Bool.false_eq_true, false_iff]; omega

theorem spec_poGood_inner (n : Int) (l y x19 : List DG) (x20 x21 c d : Int) (hy : y.length ≤ 4611686018427387904) (e : Nat) : ∀ (m k : Nat), m + e = y.length → e < k →
    spec_poGood.l1 k n l x19 x20 x21 y (y.length : Int) (m : Int) c d = if (y.drop m).any (fun z => crossB c d z.f0 z.f1) = true then some false else spec_poGood.l0 (k - e - 1) n l x19 x20 (wrap64 (x21 + 1)) := by
  induction e with
  | zero =>
    intro m k hm hk
    obtain ⟨k, rfl⟩ : ∃ q, k = q + 1 := ⟨k - 1, by omega⟩
    simp only [spec_poGood.l1]
    rw [if_neg (by omega), List.drop_of_length_le (by omega)]
    simp
  | succ e ih =>
    intro m k hm hk
    obtain ⟨k, rfl⟩ : ∃ q, k = q + 1 := ⟨k - 1, by omega⟩
    simp only [spec_poGood.l1]
    rw [if_pos (by omega), if_pos (by omega), if_pos (by omega), poCross_tells, Option.bind_some, wrap_succ m (by omega), ih (m + 1) k (by omega) (by omega), any_take_step _ y m (by omega)]
    rw [show k + 1 - (e + 1) - 1 = k - e - 1 by omega]
    cases crossB c d (rD y m).f0 (rD y m).f1 <;> simp
theorem spec_poGood_rounds (n : Int) (hn : 3 ≤ n ∧ n ≤ 12) (l : List DG) (hl : l.length ≤ 4611686018427387904) (d : Nat) : ∀ (i k : Nat), i + d = l.length → d * (l.length + 3) < k →
    spec_poGood.l0 k n l l (l.length : Int) (i : Int) = some ((List.range' i d).all (stepD n l)) := by
  induction d with
  | zero =>
    intro i k hi hk
    obtain ⟨k, rfl⟩ : ∃ q, k = q + 1 := ⟨k - 1, by omega⟩
    simp only [spec_poGood.l0]
    rw [if_neg (by omega)]
    rfl
  | succ d ih =>
    intro i k hi hk
    have hk2 : d * (l.length + 3) + (l.length + 3) < k := by rw [← Nat.succ_mul]; exact hk
    obtain ⟨k, rfl⟩ : ∃ q, k = q + 1 := ⟨k - 1, by omega⟩
    have hj : ∀ b : Bool, spec_poGood.j2 k n l (i : Int) l (l.length : Int) (i : Int) b (rD l i).f0 (rD l i).f1 =
        if b = true then some false else if (l.take i).any (fun z => crossB (rD l i).f0 (rD l i).f1 z.f0 z.f1) = true then some false else some ((List.range' (i + 1) d).all (stepD n l)) := by
      intro b
      obtain ⟨k, rfl⟩ : ∃ q, k = q + 1 := ⟨k - 1, by omega⟩
      have ht : (l.take i).length = i := by rw [List.length_take]; omega
      have h1 := spec_poGood_inner n l (l.take i) l (l.length : Int) (i : Int) (rD l i).f0 (rD l i).f1 (by omega) i 0 k (by omega) (by omega)
      rw [List.drop_zero, wrap_succ i (by omega), ih (i + 1) _ (by omega) (by omega)] at h1
      simp only [spec_poGood.j2, Int.toNat_natCast, Option.bind_some]
      cases b
      · rw [if_neg (by simp), if_pos (by omega), if_pos (by omega), if_neg (by simp)]
        exact h1
      · rfl
    simp only [spec_poGood.l0]
    rw [if_pos (by omega), if_pos (by omega), if_pos (by omega), poDiagonal_tells n _ _ hn, Option.bind_some, List.range'_succ, List.all_cons, hj, hj, stepD_def n l i]
    cases diagB n (rD l i).f0 (rD l i).f1 with
    | false => simp
    | true =>
      rw [if_pos rfl]
      by_cases h0 : i = 0
      · subst h0
        rw [if_neg (by omega)]
        cases (l.take 0).any (fun z => crossB (rD l 0).f0 (rD l 0).f1 z.f0 z.f1) <;> simp
      · have b0 : (i == 0) = false := by simp [h0]
        rw [if_pos (by omega), wrap_pred i (by omega) (by omega), if_pos (by omega), if_pos (by omega), poLess_tells, Option.bind_some, hj, b0]
        cases lessB (rD l (i - 1)).f0 (rD l (i - 1)).f1 (rD l i).f0 (rD l i).f1 <;> cases (l.take i).any (fun z => crossB (rD l i).f0 (rD l i).f1 z.f0 z.f1) <;> simp

def isTriB (n : Int) (l : List DG) : Bool := decide (3 ≤ n ∧ n ≤ 12) && (decide ((l.length : Int) = n - 3) && goodD n l)
theorem poGood_tells (n : Int) (l : List DG) (hl : l.length ≤ 4611686018427387904) : Ev (fun k => spec_poGood.f k n l) (isTriB n l) := by
  refine ⟨l.length * (l.length + 3) + 2, fun k hk => ?_⟩
  obtain ⟨k, rfl⟩ : ∃ q, k = q + 1 := ⟨k - 1, by omega⟩
  show spec_poGood.f (k + 1) n l = _
  unfold spec_poGood.f isTriB goodD
  rw [poIs_tells, Option.bind_some]
  by_cases hn : 3 ≤ n ∧ n ≤ 12
  · have w : wrap64 (n - 3) = n - 3 := by unfold wrap64; omega
    have h := spec_poGood_rounds n hn l hl l.length 0 k (by omega) (by omega)
    rw [show ((0 : Nat) : Int) = 0 from rfl] at h
    rw [decide_eq_true hn, if_pos rfl, w]
    simp only [spec_poGood.j0, h]
    by_cases hc : (l.length : Int) = n - 3
    · rw [decide_eq_true hc, hc]
      simp
    · rw [decide_eq_false hc]
      simp [hc]
  · rw [decide_eq_false hn]
    rfl

theorem doCross_tells (a b c d : Int) : impl_doCross.f a b c d = some (crossB a b c d) := by
  unfold impl_doCross.f crossB
  repeat' split
  all_goals congr 1; rw [Bool.eq_iff_iff]; simp only [Bool.or_eq_true, decide_eq_true_eq, Bool.false_eq_true, false_iff, true_iff]; omega
theorem isPolygon_tells (n : Int) : impl_isPolygon.f n = some (decide (3 ≤ n ∧ n ≤ 12)) := by
  unfold impl_isPolygon.f
  rw [within_tells]
  rfl
theorem isDiagonal_tells (n a b : Int) (h : 3 ≤ n ∧ n ≤ 12) : impl_isDiagonal.f n a b = some (diagB n a b) := by
  unfold impl_isDiagonal.f diagB
  rw [within_tells, within_tells]
  have w : wrap64 (n - 1) = n - 1 := by unfold wrap64; omega
  simp only [Option.bind_some, w, decide_eq_true_eq]
  by_cases h0 : 0 ≤ a ∧ a ≤ n - 1
  · by_cases h1 : 0 ≤ b ∧ b ≤ n - 1
    · have w3 : wrap64 (b - a) = b - a := by unfold wrap64; omega
      rw [if_pos h0, if_pos h1, w3]
      repeat' split
      all_goals congr 1; rw [Bool.eq_iff_iff]; simp only [decide_eq_true_eq, Bool.false_eq_true, false_iff, Bool.not_eq_true', beq_eq_false_iff_ne, ne_eq, Bool.not_false, true_iff]; omega
    · rw [if_pos h0, if_neg h1]
      congr 1; rw [Bool.eq_iff_iff]; simp only [decide_eq_true_eq, Bool.false_eq_true, false_iff]; omega
  · rw [if_neg h0]
    congr 1; rw [Bool.eq_iff_iff]; simp only [decide_eq_true_eq, Bool.false_eq_true, false_iff]; omega
def cmpI (a c : Int) : Int := if a < c then -1 else if a > c then 1 else 0
def cmpD (a b c d : Int) : Int := if a = c then cmpI b d else cmpI a c
theorem compare_tells (a c : Int) : cmp_Compare_int.f a c = some (cmpI a c) := by
  unfold cmp_Compare_int.f cmp_isNaN_int.f cmpI
  have h0 : (a != a) = false := by simp
  have h1 : (c != c) = false := by simp
  rw [h0, h1]
  simp only [Option.bind_some, Bool.false_eq_true, if_false]
  repeat' split
  all_goals rfl
theorem compareDiagonals_tells (a b c d : Int) (k : Nat) (hk : 3 ≤ k) : impl_compareDiagonals.f k a b c d = some (cmpD a b c d) := by
  obtain ⟨k, rfl⟩ : ∃ q, k = q + 3 := ⟨k - 3, by omega⟩
  unfold impl_compareDiagonals.f cmp_Or_int.f
  rw [compare_tells, compare_tells]
  simp only [Option.bind_some, List.length_cons, List.length_nil]
  have r0 : rd [cmpI a c, cmpI b d] 0 = cmpI a c := rfl
  have r1 : rd [cmpI a c, cmpI b d] 1 = cmpI b d := rfl
  have w0 : wrap64 (0 + 1) = 1 := by unfold wrap64; omega
  have w1 : wrap64 (1 + 1) = 2 := by unfold wrap64; omega
  simp only [cmp_Or_int.l0, w0, w1, r0, r1]
  unfold cmpD
  by_cases e : a = c
  · have z : cmpI a c = 0 := by unfold cmpI; rw [if_neg (by omega), if_neg (by omega)]
    rw [if_pos e, z]
    by_cases z2 : cmpI b d = 0
    · simp [z2]
    · simp [z2]
  · have z : ¬ cmpI a c = 0 := by unfold cmpI; split; · omega
                                  split <;> omega
    rw [if_neg e]
    simp [z]
theorem cmpD_nonneg (a b c d : Int) : cmpD a b c d ≥ 0 ↔ lessB a b c d = false := by
  unfold cmpD cmpI lessB
  rw [decide_eq_false_iff_not]
  repeat' split
  all_goals omega

theorem impl_Diagonal_101_s1_rounds (l : List DG) (c d : Int) (hl : l.length ≤ 4611686018427387904) (e : Nat) : ∀ (i k : Nat), i + e = l.length → e < k →
    ∃ r, impl_Diagonal_101_s1.l0 k l (l.length : Int) (i : Int) c d = some r ∧ (r ≥ 0 ↔ (l.drop i).any (fun z => crossB c d z.f0 z.f1) = true) := by
  induction e with
  | zero =>
    intro i k hi hk
    obtain ⟨k, rfl⟩ : ∃ q, k = q + 1 := ⟨k - 1, by omega⟩
    simp only [impl_Diagonal_101_s1.l0]
    rw [if_neg (by omega), List.drop_of_length_le (by omega)]
    exact ⟨-1, rfl, by simp⟩
  | succ e ih =>
    intro i k hi hk
    obtain ⟨k, rfl⟩ : ∃ q, k = q + 1 := ⟨k - 1, by omega⟩
    obtain ⟨r, hr, hr2⟩ := ih (i + 1) k (by omega) (by omega)
    simp only [impl_Diagonal_101_s1.l0, impl_IsTriangulation_1_s2.f]
    rw [if_pos (by omega), if_pos (by omega), if_pos (by omega), doCross_tells, wrap_succ i (by omega), hr, any_take_step _ l i (by omega)]
    simp only [Option.bind_some]
    cases hc : crossB c d (rD l i).f0 (rD l i).f1 with
    | true => exact ⟨i, rfl, by simp⟩
    | false => exact ⟨r, rfl, by rw [Bool.false_or]; exact hr2⟩
theorem impl_Diagonal_95_s0_tells (l : List DG) (c d : Int) (hl : l.length ≤ 4611686018427387904) (k : Nat) (hk : l.length < k) : impl_Diagonal_95_s0.f k l c d = some (l.any fun z => crossB c d z.f0 z.f1) := by
  obtain ⟨r, hr, hr2⟩ := impl_Diagonal_101_s1_rounds l c d hl l.length 0 k (by omega) hk
  unfold impl_Diagonal_95_s0.f impl_Diagonal_101_s1.f
  rw [show ((0 : Nat) : Int) = 0 from rfl] at hr
  rw [hr, Option.bind_some]
  congr 1
  rw [Bool.eq_iff_iff, decide_eq_true_iff, hr2, List.drop_zero]

theorem impl_IsTriangulation_rounds (n : Int) (hn : 3 ≤ n ∧ n ≤ 12) (l : List DG) (hl : l.length ≤ 4611686018427387904) (d : Nat) : ∀ (i k : Nat), i + d = l.length → d + l.length + 3 < k →
    impl_IsTriangulation.l0 k n l l (l.length : Int) (i : Int) = some ((List.range' i d).all (stepD n l)) := by
  induction d with
  | zero =>
    intro i k hi hk
    obtain ⟨k, rfl⟩ : ∃ q, k = q + 1 := ⟨k - 1, by omega⟩
    simp only [impl_IsTriangulation.l0]
    rw [if_neg (by omega)]
    rfl
  | succ d ih =>
    intro i k hi hk
    obtain ⟨k, rfl⟩ : ∃ q, k = q + 1 := ⟨k - 1, by omega⟩
    have ht : (l.take i).length = i := by rw [List.length_take]; omega
    have hc : impl_Diagonal_95_s0.f k (l.take i) (rD l i).f0 (rD l i).f1 = some ((l.take i).any fun z => crossB (rD l i).f0 (rD l i).f1 z.f0 z.f1) := impl_Diagonal_95_s0_tells _ _ _ (by omega) k (by omega)
    simp only [impl_IsTriangulation.l0, Int.toNat_natCast]
    rw [if_pos (by omega), if_pos (by omega), if_pos (by omega), isDiagonal_tells n _ _ hn, Option.bind_some, hc, Option.bind_some, wrap_succ i (by omega), ih (i + 1) k (by omega) (by omega), List.range'_succ, List.all_cons, stepD_def n l i]
    cases diagB n (rD l i).f0 (rD l i).f1 with
    | false => simp
    | true =>
      rw [if_pos rfl]
      by_cases h0 : i = 0
      · subst h0
        rw [if_neg (by omega), if_pos (by omega)]
        cases (l.take 0).any (fun z => crossB (rD l 0).f0 (rD l 0).f1 z.f0 z.f1) <;> simp
      · have b0 : (i == 0) = false := by simp [h0]
        rw [if_pos (by omega), wrap_pred i (by omega) (by omega), if_pos (by omega), if_pos (by omega), compareDiagonals_tells _ _ _ _ k (by omega), Option.bind_some, b0]
        have hcm := cmpD_nonneg (rD l (i - 1)).f0 (rD l (i - 1)).f1 (rD l i).f0 (rD l i).f1
        cases hs : lessB (rD l (i - 1)).f0 (rD l (i - 1)).f1 (rD l i).f0 (rD l i).f1 with
        | false => rw [if_pos (hcm.2 hs)]; simp
        | true =>
          rw [if_neg (fun h => by rw [hcm.1 h] at hs; cases hs), if_pos (by omega)]
          cases (l.take i).any (fun z => crossB (rD l i).f0 (rD l i).f1 z.f0 z.f1) <;> simp

theorem isTri_tells (n : Int) (l : List DG) (hl : l.length ≤ 4611686018427387904) : Ev (fun k => impl_IsTriangulation.f k n l) (isTriB n l) := by
  refine ⟨l.length + l.length + 5, fun k hk => ?_⟩
  obtain ⟨k, rfl⟩ : ∃ q, k = q + 1 := ⟨k - 1, by omega⟩
  show impl_IsTriangulation.f (k + 1) n l = _
  unfold impl_IsTriangulation.f isTriB goodD
  rw [isPolygon_tells, Option.bind_some]
  by_cases hn : 3 ≤ n ∧ n ≤ 12
  · have w : wrap64 (n - 3) = n - 3 := by unfold wrap64; omega
    have h := impl_IsTriangulation_rounds n hn l hl l.length 0 k (by omega) (by omega)
    rw [show ((0 : Nat) : Int) = 0 from rfl] at h
    rw [decide_eq_true hn, if_pos rfl, w]
    simp only [impl_IsTriangulation.j0, h]
    by_cases hc : (l.length : Int) = n - 3
    · rw [decide_eq_true hc, hc]
      simp
    · rw [decide_eq_false hc]
      simp [hc]
  · rw [decide_eq_false hn]
    simp [impl_IsTriangulation.j0]

def conv72 (x : S82) : S72 := ⟨x.f0, x.f1⟩
theorem toS72_rounds (x0 : List S82) (hl : x0.length ≤ 1048576) (d : Nat) : ∀ (i k : Nat) (x3 : List S72), x3.length = x0.length → i + d = x0.length → d < k →
    laws_toDiagonalS.l0 k x0 x3 (i : Int) = some (x3.take i ++ (x0.drop i).map conv72) := by
  induction d with
  | zero =>
    intro i k x3 h3 hi hk
    obtain ⟨k, rfl⟩ : ∃ m, k = m + 1 := ⟨k - 1, by omega⟩
    simp only [laws_toDiagonalS.l0]
    rw [if_neg (by omega), List.drop_of_length_le (by omega), List.take_of_length_le (by omega), List.map_nil, List.append_nil]
  | succ d ih =>
    intro i k x3 h3 hi hk
    obtain ⟨k, rfl⟩ : ∃ m, k = m + 1 := ⟨k - 1, by omega⟩
    simp only [laws_toDiagonalS.l0, laws_toDiagonal.f, Option.bind_some]
    rw [if_pos (by omega), if_pos (by omega), if_pos (by omega), wrap_succ i (by omega), ih (i + 1) k _ (by rw [List.length_set]; exact h3) (by omega) (by omega), Int.toNat_natCast, take_set_succ _ _ _ (by omega), getD_drop x0 z82 i (by omega), List.map_cons]
    simp [rd_T82, conv72]
theorem toS72_tells (x0 : List S82) (hl : x0.length ≤ 1048576) : Ev (fun k => laws_toDiagonalS.f k x0) (x0.map conv72) := by
  refine ⟨x0.length + 1, fun k hk => ?_⟩
  show laws_toDiagonalS.f k x0 = _
  unfold laws_toDiagonalS.f
  rw [if_pos (by omega), if_pos (by omega), Int.toNat_natCast]
  have h := toS72_rounds x0 hl x0.length 0 k (List.replicate x0.length z72) (by simp) (by omega) (by omega)
  simpa using h
theorem eqS72_rounds (l : List S72) (hl : l.length ≤ 4611686018427387904) (d : Nat) : ∀ (i k : Nat), i + d = l.length → d < k → laws_eqDiagonalS.l0 k l l (i : Int) = some true := by
  induction d with
  | zero =>
    intro i k hi hk
    obtain ⟨k, rfl⟩ : ∃ m, k = m + 1 := ⟨k - 1, by omega⟩
    simp only [laws_eqDiagonalS.l0]
    rw [if_neg (by omega)]
  | succ d ih =>
    intro i k hi hk
    obtain ⟨k, rfl⟩ : ∃ m, k = m + 1 := ⟨k - 1, by omega⟩
    simp only [laws_eqDiagonalS.l0, laws_eqDiagonal.f, if_true, Option.bind_some]
    rw [if_pos (by omega), if_pos (by omega), if_pos (by omega), wrap_succ i (by omega)]
    exact ih (i + 1) k (by omega) (by omega)
theorem eqS72_tells (l : List S72) (hl : l.length ≤ 4611686018427387904) : Ev (fun k => laws_eqDiagonalS.f k l l) true := by
  refine ⟨l.length + 1, fun k hk => ?_⟩
  show laws_eqDiagonalS.f k l l = _
  unfold laws_eqDiagonalS.f
  rw [if_pos rfl]
  exact eqS72_rounds l hl l.length 0 k (by omega) (by omega)
theorem sz72_tells (l : List S82) (n : Int) (h0 : 0 ≤ n) (h1 : n ≤ 1048576) (hl : l.length ≤ 4611686018427387904) : laws_szDiagonalS.f l n = some (if n - (l.length : Int) < 0 then -1 else n - (l.length : Int)) := by
  unfold laws_szDiagonalS.f
  have w : wrap64 (n - (l.length : Int)) = n - (l.length : Int) := by unfold wrap64; omega
  rw [w]
  split <;> rfl
theorem sz72_any (l : List S82) (n : Int) (h0 : 0 ≤ n) (h1 : n ≤ 1048576) (hl : l.length ≤ maxLen) : ∃ r, laws_szDiagonalS.f l n = some r ∧ (r < 0 ∨ (0 ≤ r ∧ r = n - (l.length : Int))) := by
  unfold maxLen at hl
  unfold laws_szDiagonalS.f
  by_cases h : wrap64 (n - (l.length : Int)) < 0
  · rw [if_pos h]
    exact ⟨_, rfl, .inl (by omega)⟩
  · rw [if_neg h]
    have w : wrap64 (n - (l.length : Int)) = n - (l.length : Int) := by unfold wrap64 at h ⊢; omega
    exact ⟨_, rfl, .inr ⟨by omega, w⟩⟩

def cntX (c d : Int) (l : List DG) (x : Int) : Int := l.foldl (fun x z => if crossB c d z.f0 z.f1 = true then wrap64 (x + 1) else x) x
theorem cntX_cons (c d : Int) (z : DG) (l : List DG) (x : Int) : cntX c d (z :: l) x = cntX c d l (if crossB c d z.f0 z.f1 = true then wrap64 (x + 1) else x) := rfl
def cntO (x2 : List DG) (l : List DG) (x : Int) : Int := l.foldl (fun x y => cntX y.f0 y.f1 x2 x) x

theorem spec_CrossingsBetween_inner (x2 x18 x24 : List DG) (x19 x20 c d : Int) (hy : x24.length ≤ 4611686018427387904) (e : Nat) : ∀ (m k : Nat) (x8 : Int), m + e = x24.length → e < k →
    spec_CrossingsBetween.l1 k x2 x8 x18 x19 x20 x24 (x24.length : Int) (m : Int) c d = spec_CrossingsBetween.l0 (k - e - 1) x2 (cntX c d (x24.drop m) x8) x18 x19 (wrap64 (x20 + 1)) := by
  induction e with
  | zero =>
    intro m k x8 hm hk
    obtain ⟨k, rfl⟩ : ∃ q, k = q + 1 := ⟨k - 1, by omega⟩
    simp only [spec_CrossingsBetween.l1]
    rw [if_neg (by omega), List.drop_of_length_le (by omega)]
    rfl
  | succ e ih =>
    intro m k x8 hm hk
    obtain ⟨k, rfl⟩ : ∃ q, k = q + 1 := ⟨k - 1, by omega⟩
    simp only [spec_CrossingsBetween.l1]
    rw [if_pos (by omega), if_pos (by omega), if_pos (by omega), poCross_tells, Option.bind_some, wrap_succ m (by omega), ih (m + 1) k _ (by omega) (by omega), ih (m + 1) k _ (by omega) (by omega), rD_drop x24 m (by omega), cntX_cons]
    rw [show k + 1 - (e + 1) - 1 = k - e - 1 by omega]
    cases crossB c d (rD x24 m).f0 (rD x24 m).f1 <;> rfl
theorem spec_CrossingsBetween_outer (x2 x18 : List DG) (hx : x2.length ≤ 4611686018427387904) (hy : x18.length ≤ 4611686018427387904) (e : Nat) : ∀ (m k : Nat) (x8 : Int), m + e = x18.length → e * (x2.length + 2) < k →
    spec_CrossingsBetween.l0 k x2 x8 x18 (x18.length : Int) (m : Int) = some (cntO x2 (x18.drop m) x8, true) := by
  induction e with
  | zero =>
    intro m k x8 hm hk
    obtain ⟨k, rfl⟩ : ∃ q, k = q + 1 := ⟨k - 1, by omega⟩
    simp only [spec_CrossingsBetween.l0]
    rw [if_neg (by omega), List.drop_of_length_le (by omega)]
    rfl
  | succ e ih =>
    intro m k x8 hm hk
    have hk2 : e * (x2.length + 2) + (x2.length + 2) < k := by rw [← Nat.succ_mul]; exact hk
    obtain ⟨k, rfl⟩ : ∃ q, k = q + 1 := ⟨k - 1, by omega⟩
    have h1 := spec_CrossingsBetween_inner x2 x18 x2 (x18.length : Int) (m : Int) (rD x18 m).f0 (rD x18 m).f1 hx x2.length 0 k x8 (by omega) (by omega)
    rw [show ((0 : Nat) : Int) = 0 from rfl, wrap_succ m (by omega), ih (m + 1) _ _ (by omega) (by omega)] at h1
    simp only [spec_CrossingsBetween.l0]
    rw [if_pos (by omega), if_pos (by omega), if_pos (by omega), rD_drop x18 m (by omega)]
    exact h1

theorem impl_CrossingsBetween_inner (x2 x18 x24 : List DG) (x19 x20 c d : Int) (hy : x24.length ≤ 4611686018427387904) (e : Nat) : ∀ (m k : Nat) (x8 : Int), m + e = x24.length → e < k →
    impl_CrossingsBetween.l1 k x2 x8 x18 x19 x20 x24 (x24.length : Int) (m : Int) c d = impl_CrossingsBetween.l0 (k - e - 1) x2 (cntX c d (x24.drop m) x8) x18 x19 (wrap64 (x20 + 1)) := by
  induction e with
  | zero =>
    intro m k x8 hm hk
    obtain ⟨k, rfl⟩ : ∃ q, k = q + 1 := ⟨k - 1, by omega⟩
    simp only [impl_CrossingsBetween.l1]
    rw [if_neg (by omega), List.drop_of_length_le (by omega)]
    rfl
  | succ e ih =>
    intro m k x8 hm hk
    obtain ⟨k, rfl⟩ : ∃ q, k = q + 1 := ⟨k - 1, by omega⟩
    simp only [impl_CrossingsBetween.l1]
    rw [if_pos (by omega), if_pos (by omega), if_pos (by omega), doCross_tells, Option.bind_some, wrap_succ m (by omega), ih (m + 1) k _ (by omega) (by omega), ih (m + 1) k _ (by omega) (by omega), rD_drop x24 m (by omega), cntX_cons]
    rw [show k + 1 - (e + 1) - 1 = k - e - 1 by omega]
    cases crossB c d (rD x24 m).f0 (rD x24 m).f1 <;> rfl
theorem impl_CrossingsBetween_outer (x2 x18 : List DG) (hx : x2.length ≤ 4611686018427387904) (hy : x18.length ≤ 4611686018427387904) (e : Nat) : ∀ (m k : Nat) (x8 : Int), m + e = x18.length → e * (x2.length + 2) < k →
    impl_CrossingsBetween.l0 k x2 x8 x18 (x18.length : Int) (m : Int) = some (cntO x2 (x18.drop m) x8, true) := by
  induction e with
  | zero =>
    intro m k x8 hm hk
    obtain ⟨k, rfl⟩ : ∃ q, k = q + 1 := ⟨k - 1, by omega⟩
    simp only [impl_CrossingsBetween.l0]
    rw [if_neg (by omega), List.drop_of_length_le (by omega)]
    rfl
  | succ e ih =>
    intro m k x8 hm hk
    have hk2 : e * (x2.length + 2) + (x2.length + 2) < k := by rw [← Nat.succ_mul]; exact hk
    obtain ⟨k, rfl⟩ : ∃ q, k = q + 1 := ⟨k - 1, by omega⟩
    have h1 := impl_CrossingsBetween_inner x2 x18 x2 (x18.length : Int) (m : Int) (rD x18 m).f0 (rD x18 m).f1 hx x2.length 0 k x8 (by omega) (by omega)
    rw [show ((0 : Nat) : Int) = 0 from rfl, wrap_succ m (by omega), ih (m + 1) _ _ (by omega) (by omega)] at h1
    simp only [impl_CrossingsBetween.l0]
    rw [if_pos (by omega), if_pos (by omega), if_pos (by omega), rD_drop x18 m (by omega)]
    exact h1

theorem FnExactCrossingsBetween (n : Int) (l m : List S82) (_ : (Lit.int .i64 n).wf = true) (hm : l.length ≤ maxLen) (_ : ∀ y ∈ l, (Lit.int .i64 y.f0).wf = true ∧ (Lit.int .i64 y.f1).wf = true) (hm2 : m.length ≤ maxLen) (_ : ∀ y ∈ m, (Lit.int .i64 y.f0).wf = true ∧ (Lit.int .i64 y.f1).wf = true) :
    ∃ k, laws_FnExactCrossingsBetween.f k n l m = some true := by
  obtain ⟨r, hr, hr2⟩ := sz72_any l 1048576 (by omega) (by omega) hm
  rcases hr2 with hr2 | ⟨hr2, hr3⟩
  · refine ⟨0, ?_⟩
    unfold laws_FnExactCrossingsBetween.f
    rw [hr, Option.bind_some, if_pos hr2]
  · obtain ⟨q, hq, hq2⟩ := sz72_any m r (by omega) (by omega) hm2
    rcases hq2 with hq2 | ⟨hq2, hq3⟩
    · refine ⟨0, ?_⟩
      unfold laws_FnExactCrossingsBetween.f
      rw [hr, Option.bind_some, if_neg (by omega), hq, Option.bind_some, if_pos hq2]
    · have hc : (l.map conv72).length ≤ 4611686018427387904 := by rw [List.length_map]; omega
      have hd : (m.map conv72).length ≤ 4611686018427387904 := by rw [List.length_map]; omega
      obtain ⟨K1, e0, e1, e2, e3⟩ := Ev.at4 (toS72_tells l (by omega)) (poGood_tells n _ hc) (isTri_tells n _ hc) (eqS72_tells _ hc)
      obtain ⟨K2, g0, g1, g2, g3⟩ := Ev.at4 (toS72_tells m (by omega)) (poGood_tells n _ hd) (isTri_tells n _ hd) (eqS72_tells _ hd)
      have s1 := spec_CrossingsBetween_outer (m.map conv72) (l.map conv72) hd hc _ 0 (K1 + (K2 + ((l.map conv72).length * ((m.map conv72).length + 2) + 1))) 0 (Nat.zero_add _) (by omega)
      have s2 := impl_CrossingsBetween_outer (m.map conv72) (l.map conv72) hd hc _ 0 (K1 + (K2 + ((l.map conv72).length * ((m.map conv72).length + 2) + 1))) 0 (Nat.zero_add _) (by omega)
      rw [show ((0 : Nat) : Int) = 0 from rfl] at s1 s2
      generalize hK : (l.map conv72).length * ((m.map conv72).length + 2) + 1 = K3 at s1 s2
      have k3 : 1 ≤ K3 := by omega
      obtain ⟨K4, rfl⟩ : ∃ x, K3 = x + 1 := ⟨K3 - 1, by omega⟩
      have k0 := e0 (K2 + (K4 + 1))
      have k1 := e1 (K2 + (K4 + 1))
      have k2 := e2 (K2 + (K4 + 1))
      have k5 := e3 (K2 + K4)
      have k5' := e0 (K2 + K4)
      have j0 := g0 (K1 + (K4 + 1))
      have j1 := g1 (K1 + (K4 + 1))
      have j2 := g2 (K1 + (K4 + 1))
      have j5 := g3 (K1 + K4)
      have j5' := g0 (K1 + K4)
      rw [show K2 + (K1 + (K4 + 1)) = K1 + (K2 + (K4 + 1)) by omega] at j0 j1 j2
      rw [show K2 + (K1 + K4) = K1 + (K2 + K4) by omega] at j5 j5'
      refine ⟨K1 + (K2 + (K4 + 1)), ?_⟩
      simp only [laws_FnExactCrossingsBetween.f, hr, Option.bind_some, hq]
      rw [if_neg (by omega), if_neg (by omega)]
      simp only [k0, j0, Option.bind_some, spec_CrossingsBetween.f, impl_CrossingsBetween.f, spec_flTwo.f, impl_areBoth.f, k1, k2, j1, j2, s1, s2]
      have hj : laws_FnExactCrossingsBetween.j0 (K1 + (K2 + (K4 + 1))) l m (l.map conv72) (m.map conv72) false = some true := by
        show laws_FnExactCrossingsBetween.j0 ((K1 + (K2 + K4)) + 1) l m _ _ false = some true
        simp only [laws_FnExactCrossingsBetween.j0, k5, k5', j5, j5', Option.bind_some, if_true, Bool.false_eq_true, if_false]
      cases isTriB n (l.map conv72) <;> cases isTriB n (m.map conv72) <;> simp [hj]

end Go.Proofs.Ytnikefebkcminaa.PureFnExactCrossingsBetween
