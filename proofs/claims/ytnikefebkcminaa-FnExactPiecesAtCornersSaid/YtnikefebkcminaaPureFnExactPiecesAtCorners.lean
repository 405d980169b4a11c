/- The program's PiecesAtCorners and the reference's return the same for every number of corners and every list of pairs of numbers that the statement lets in: at each corner one more than the ends of diagonals that lie there. No condition. -/
import Derived.Test.YtnikefebkcminaaPFnExactPiecesAtCornersx0
import Derived.Test.YtnikefebkcminaaPFnExactPiecesAtCornersx1
import Derived.Test.YtnikefebkcminaaPFnExactPiecesAtCornersx2
import Derived.Test.YtnikefebkcminaaPFnExactPiecesAtCornersx3
import Derived.Test.YtnikefebkcminaaPFnExactPiecesAtCornersx4
import Derived.Test.YtnikefebkcminaaPFnExactPiecesAtCornersx5
import Derived.Test.YtnikefebkcminaaPFnExactPiecesAtCornersx6
import Derived.Test.YtnikefebkcminaaPFnExactPiecesAtCornersx7
import Derived.Test.YtnikefebkcminaaPFnExactPiecesAtCornersx8
set_option linter.unusedSimpArgs false
set_option linter.unnecessarySimpa false
set_option linter.unusedVariables false
namespace Go.Proofs.Ytnikefebkcminaa.PureFnExactPiecesAtCorners
open Go.RowKit Go.Proofs.Ytnikefebkcminaa.PFnExactPiecesAtCorners Go.Proofs.YtnikefebkcminaaW.PrintWords Go.Proofs.YtnikefebkcminaaW.PrintLast

theorem Ev.at1 {α : Type} {g : Nat → Option α} {r : α} (h : Ev g r) : ∃ K, ∀ j, g (K + j) = some r := by
  obtain ⟨K, h⟩ := h
  exact ⟨K, fun j => h _ (by omega)⟩
theorem Ev.at2 {α β : Type} {g : Nat → Option α} {r : α} {g2 : Nat → Option β} {r2 : β} (h : Ev g r) (h2 : Ev g2 r2) : ∃ K, (∀ j, g (K + j) = some r) ∧ ∀ j, g2 (K + j) = some r2 := by
  obtain ⟨K, h⟩ := h
  obtain ⟨K2, h2⟩ := h2
  exact ⟨K + K2, fun j => h _ (by omega), fun j => h2 _ (by omega)⟩
theorem Ev.at3 {α β γ : Type} {g : Nat → Option α} {r : α} {g2 : Nat → Option β} {r2 : β} {g3 : Nat → Option γ} {r3 : γ} (h : Ev g r) (h2 : Ev g2 r2) (h3 : Ev g3 r3) :
    ∃ K, (∀ j, g (K + j) = some r) ∧ (∀ j, g2 (K + j) = some r2) ∧ ∀ j, g3 (K + j) = some r3 := by
  obtain ⟨K, h⟩ := h
  obtain ⟨K2, h2⟩ := h2
  obtain ⟨K3, h3⟩ := h3
  exact ⟨K + K2 + K3, fun j => h _ (by omega), fun j => h2 _ (by omega), fun j => h3 _ (by omega)⟩
theorem Ev.at4 {α β γ δ : Type} {g : Nat → Option α} {r : α} {g2 : Nat → Option β} {r2 : β} {g3 : Nat → Option γ} {r3 : γ} {g4 : Nat → Option δ} {r4 : δ} (h : Ev g r) (h2 : Ev g2 r2) (h3 : Ev g3 r3) (h4 : Ev g4 r4) :
    ∃ K, (∀ j, g (K + j) = some r) ∧ (∀ j, g2 (K + j) = some r2) ∧ (∀ j, g3 (K + j) = some r3) ∧ ∀ j, g4 (K + j) = some r4 := by
  obtain ⟨K, e1, e2, e3⟩ := Ev.at3 h h2 h3
  obtain ⟨K4, h4⟩ := h4
  exact ⟨K + K4, fun j => by rw [Nat.add_assoc]; exact e1 _, fun j => by rw [Nat.add_assoc]; exact e2 _, fun j => by rw [Nat.add_assoc]; exact e3 _, fun j => h4 _ (by omega)⟩
theorem Ev.all {α β : Type} {g : α → Nat → Option β} {r : α → β} (l : List α) (h : ∀ x, x ∈ l → Ev (g x) (r x)) : ∃ K, ∀ x, x ∈ l → ∀ k, K ≤ k → g x k = some (r x) := by
  induction l with
  | nil => exact ⟨0, fun x hx => by cases hx⟩
  | cons y l ih =>
    obtain ⟨K, hK⟩ := ih (fun x hx => h x (List.mem_cons_of_mem _ hx))
    obtain ⟨K2, hK2⟩ := h y (List.mem_cons_self ..)
    refine ⟨K + K2, fun x hx k hk => ?_⟩
    rcases List.mem_cons.1 hx with e | e
    · subst e
      exact hK2 k (by omega)
    · exact hK x e k (by omega)

theorem take_set_succ {α : Type} (l : List α) (i : Nat) (v : α) (h : i < l.length) : (l.set i v).take (i + 1) = l.take i ++ [v] := by
  rw [List.take_succ_eq_append_getElem (by rw [List.length_set]; exact h), List.getElem_set_self, List.take_set_of_le (Nat.le_refl i)]
theorem getD_drop {α : Type} (l : List α) (d : α) (i : Nat) (h : i < l.length) : l.drop i = l.getD i d :: l.drop (i + 1) := by
  rw [List.drop_eq_getElem_cons h, List.getD_eq_getElem?_getD, List.getElem?_eq_getElem h]
  rfl
theorem wrap_succ (i : Nat) (h : i < 4611686018427387904) : wrap64 ((i : Int) + 1) = ((i + 1 : Nat) : Int) := by unfold wrap64; omega
theorem wrap_pred (i : Nat) (h0 : 0 < i) (h : i < 4611686018427387904) : wrap64 ((i : Int) - 1) = ((i - 1 : Nat) : Int) := by unfold wrap64; omega

theorem l1In_tells (a b c : Int) : spec_l1In.f a b c = some (decide (b ≤ a ∧ a ≤ c)) := by
  unfold spec_l1In.f
  by_cases h : a ≥ b
  · rw [if_pos h]
    have : b ≤ a := h
    simp [this]
  · rw [if_neg h]
    have : ¬ b ≤ a := h
    simp [this]

theorem within_tells (a b c : Int) : impl_within.f a b c = some (decide (b ≤ a ∧ a ≤ c)) := by
  unfold impl_within.f
  by_cases h : a ≥ b
  · rw [if_pos h]
    have : b ≤ a := h
    simp [this]
  · rw [if_neg h]
    have : ¬ b ≤ a := h
    simp [this]

abbrev DG := S72
abbrev rD (l : List DG) (j : Nat) : DG := rd_T72 l (j : Int)
def crossB (a b c d : Int) : Bool := decide (a < c ∧ c < b ∧ b < d) || decide (c < a ∧ a < d ∧ d < b)
def diagB (n a b : Int) : Bool := decide (0 ≤ a ∧ b ≤ n - 1 ∧ b - a ≥ 2 ∧ b - a ≤ n - 2)
def lessB (a b c d : Int) : Bool := decide (a < c ∨ (a = c ∧ b < d))
def stepD (n : Int) (l : List DG) (j : Nat) : Bool :=
  diagB n (rD l j).f0 (rD l j).f1 && ((j == 0 || lessB (rD l (j - 1)).f0 (rD l (j - 1)).f1 (rD l j).f0 (rD l j).f1) && !(l.take j).any fun e => crossB (rD l j).f0 (rD l j).f1 e.f0 e.f1)
theorem stepD_def (n : Int) (l : List DG) (j : Nat) : stepD n l j = (diagB n (rD l j).f0 (rD l j).f1 && ((j == 0 || lessB (rD l (j - 1)).f0 (rD l (j - 1)).f1 (rD l j).f0 (rD l j).f1) && !(l.take j).any fun e => crossB (rD l j).f0 (rD l j).f1 e.f0 e.f1)) := rfl
def goodD (n : Int) (l : List DG) : Bool := (List.range' 0 l.length).all (stepD n l)

theorem rD_drop (l : List DG) (i : Nat) (h : i < l.length) : l.drop i = rD l i :: l.drop (i + 1) := by
  rw [getD_drop l z72 i h]
  unfold rD rd_T72
  rw [Int.toNat_natCast]
theorem any_take_step (p : DG → Bool) (l : List DG) (i : Nat) (h : i < l.length) : (l.drop i).any p = (p (rD l i) || (l.drop (i + 1)).any p) := by
  rw [rD_drop l i h, List.any_cons]

theorem poCross_tells (a b c d : Int) : spec_poCross.f a b c d = some (crossB a b c d) := by
  unfold spec_poCross.f crossB
  repeat' split
  all_goals congr 1; rw [Bool.eq_iff_iff]; simp only [Bool.or_eq_true, decide_eq_true_eq, Bool.false_eq_true, false_iff, true_iff]; omega
theorem poLess_tells (a b c d : Int) : spec_poLess.f a b c d = some (lessB a b c d) := by
  unfold spec_poLess.f lessB
  repeat' split
  all_goals congr 1; rw [Bool.eq_iff_iff]; simp only [decide_eq_true_eq, Bool.false_eq_true, false_iff, true_iff]; omega
theorem poIs_tells (n : Int) : spec_poIs.f n = some (decide (3 ≤ n ∧ n ≤ 12)) := by
  unfold spec_poIs.f
  rw [l1In_tells]
  rfl
theorem poDiagonal_tells (n a b : Int) (h : 3 ≤ n ∧ n ≤ 12) : spec_poDiagonal.f n a b = some (diagB n a b) := by
  unfold spec_poDiagonal.f diagB
  rw [poIs_tells, l1In_tells, l1In_tells, decide_eq_true h]
  have w : wrap64 (n - 1) = n - 1 := by unfold wrap64; omega
  have w2 : wrap64 (n - 2) = n - 2 := by unfold wrap64; omega
  simp only [Option.bind_some, if_true, w, w2, decide_eq_true_eq]
  by_cases h0 : 0 ≤ a ∧ a ≤ n - 1
  · by_cases h1 : 0 ≤ b ∧ b ≤ n - 1
    · have w3 : wrap64 (b - a) = b - a := by unfold wrap64; omega
      rw [if_pos h0, if_pos h1, w3]
      split
      all_goals congr 1; rw [Bool.eq_iff_iff]; simp only [decide_eq_true_eq, Bool.false_eq_true, false_iff]; omega
    · rw [if_pos h0, if_neg h1]
      congr 1; rw [Bool.eq_iff_iff]; simp only [decide_eq_true_eq, Bool.false_eq_true, false_iff]; omega
  · rw [if_neg h0]
    congr 1; rw [Bool.eq_iff_iff]; simp only [decide_eq_true_eq, Bool.false_eq_true, false_iff]; omega

theorem spec_cuGood_inner (n : Int) (l y x19 : List DG) (x20 x21 c d : Int) (hy : y.length ≤ 4611686018427387904) (e : Nat) : ∀ (m k : Nat), m + e = y.length → e < k →
    spec_cuGood.l1 k n l x19 x20 x21 y (y.length : Int) (m : Int) c d = if (y.drop m).any (fun z => crossB c d z.f0 z.f1) = true then some false else spec_cuGood.l0 (k - e - 1) n l x19 x20 (wrap64 (x21 + 1)) := by
  induction e with
  | zero =>
    intro m k hm hk
    obtain ⟨k, rfl⟩ : ∃ q, k = q + 1 := ⟨k - 1, by omega⟩
    simp only [spec_cuGood.l1]
    rw [if_neg (by omega), List.drop_of_length_le (by omega)]
    simp
  | succ e ih =>
    intro m k hm hk
    obtain ⟨k, rfl⟩ : ∃ q, k = q + 1 := ⟨k - 1, by omega⟩
    simp only [spec_cuGood.l1]
    rw [if_pos (by omega), if_pos (by omega), if_pos (by omega), poCross_tells, Option.bind_some, wrap_succ m (by omega), ih (m + 1) k (by omega) (by omega), any_take_step _ y m (by omega)]
    rw [show k + 1 - (e + 1) - 1 = k - e - 1 by omega]
    cases crossB c d (rD y m).f0 (rD y m).f1 <;> simp
theorem spec_cuGood_rounds (n : Int) (hn : 3 ≤ n ∧ n ≤ 12) (l : List DG) (hl : l.length ≤ 4611686018427387904) (d : Nat) : ∀ (i k : Nat), i + d = l.length → d * (l.length + 3) < k →
    spec_cuGood.l0 k n l l (l.length : Int) (i : Int) = some ((List.range' i d).all (stepD n l)) := by
  induction d with
  | zero =>
    intro i k hi hk
    obtain ⟨k, rfl⟩ : ∃ q, k = q + 1 := ⟨k - 1, by omega⟩
    simp only [spec_cuGood.l0]
    rw [if_neg (by omega)]
    rfl
  | succ d ih =>
    intro i k hi hk
    have hk2 : d * (l.length + 3) + (l.length + 3) < k := by rw [← Nat.succ_mul]; exact hk
    obtain ⟨k, rfl⟩ : ∃ q, k = q + 1 := ⟨k - 1, by omega⟩
    have hj : ∀ b : Bool, spec_cuGood.j2 k n l (i : Int) l (l.length : Int) (i : Int) b (rD l i).f0 (rD l i).f1 =
        if b = true then some false else if (l.take i).any (fun z => crossB (rD l i).f0 (rD l i).f1 z.f0 z.f1) = true then some false else some ((List.range' (i + 1) d).all (stepD n l)) := by
      intro b
      obtain ⟨k, rfl⟩ : ∃ q, k = q + 1 := ⟨k - 1, by omega⟩
      have ht : (l.take i).length = i := by rw [List.length_take]; omega
      have h1 := spec_cuGood_inner n l (l.take i) l (l.length : Int) (i : Int) (rD l i).f0 (rD l i).f1 (by omega) i 0 k (by omega) (by omega)
      rw [List.drop_zero, wrap_succ i (by omega), ih (i + 1) _ (by omega) (by omega)] at h1
      simp only [spec_cuGood.j2, Int.toNat_natCast, Option.bind_some]
      cases b
      · rw [if_neg (by simp), if_pos (by omega), if_pos (by omega), if_neg (by simp)]
        exact h1
      · rfl
    simp only [spec_cuGood.l0]
    rw [if_pos (by omega), if_pos (by omega), if_pos (by omega), poDiagonal_tells n _ _ hn, Option.bind_some, List.range'_succ, List.all_cons, hj, hj, stepD_def n l i]
    cases diagB n (rD l i).f0 (rD l i).f1 with
    | false => simp
    | true =>
      rw [if_pos rfl]
      by_cases h0 : i = 0
      · subst h0
        rw [if_neg (by omega)]
        cases (l.take 0).any (fun z => crossB (rD l 0).f0 (rD l 0).f1 z.f0 z.f1) <;> simp
      · have b0 : (i == 0) = false := by simp [h0]
        rw [if_pos (by omega), wrap_pred i (by omega) (by omega), if_pos (by omega), if_pos (by omega), poLess_tells, Option.bind_some, hj, b0]
        cases lessB (rD l (i - 1)).f0 (rD l (i - 1)).f1 (rD l i).f0 (rD l i).f1 <;> cases (l.take i).any (fun z => crossB (rD l i).f0 (rD l i).f1 z.f0 z.f1) <;> simp

def isCutB (n : Int) (l : List DG) : Bool := decide (3 ≤ n ∧ n ≤ 12) && (decide ((l.length : Int) ≤ n - 3) && goodD n l)
theorem cuGood_tells (n : Int) (l : List DG) (hl : l.length ≤ 4611686018427387904) : Ev (fun k => spec_cuGood.f k n l) (isCutB n l) := by
  refine ⟨l.length * (l.length + 3) + 2, fun k hk => ?_⟩
  obtain ⟨k, rfl⟩ : ∃ q, k = q + 1 := ⟨k - 1, by omega⟩
  show spec_cuGood.f (k + 1) n l = _
  unfold spec_cuGood.f isCutB goodD
  rw [poIs_tells, Option.bind_some]
  by_cases hn : 3 ≤ n ∧ n ≤ 12
  · have w : wrap64 (n - 3) = n - 3 := by unfold wrap64; omega
    have h := spec_cuGood_rounds n hn l hl l.length 0 k (by omega) (by omega)
    rw [show ((0 : Nat) : Int) = 0 from rfl] at h
    rw [decide_eq_true hn, if_pos rfl, w]
    simp only [spec_cuGood.j0, h]
    by_cases hc : (l.length : Int) > n - 3
    · rw [decide_eq_true hc, decide_eq_false (by omega)]
      rfl
    · rw [decide_eq_false hc, decide_eq_true (by omega)]
      rfl
  · rw [decide_eq_false hn]
    rfl

theorem doCross_tells (a b c d : Int) : impl_doCross.f a b c d = some (crossB a b c d) := by
  unfold impl_doCross.f crossB
  repeat' split
  all_goals congr 1; rw [Bool.eq_iff_iff]; simp only [Bool.or_eq_true, decide_eq_true_eq, Bool.false_eq_true, false_iff, true_iff]; omega
theorem isPolygon_tells (n : Int) : impl_isPolygon.f n = some (decide (3 ≤ n ∧ n ≤ 12)) := by
  unfold impl_isPolygon.f
  rw [within_tells]
  rfl
theorem isDiagonal_tells (n a b : Int) (h : 3 ≤ n ∧ n ≤ 12) : impl_isDiagonal.f n a b = some (diagB n a b) := by
  unfold impl_isDiagonal.f diagB
  rw [within_tells, within_tells]
  have w : wrap64 (n - 1) = n - 1 := by unfold wrap64; omega
  simp only [Option.bind_some, w, decide_eq_true_eq]
  by_cases h0 : 0 ≤ a ∧ a ≤ n - 1
  · by_cases h1 : 0 ≤ b ∧ b ≤ n - 1
    · have w3 : wrap64 (b - a) = b - a := by unfold wrap64; omega
      rw [if_pos h0, if_pos h1, w3]
      repeat' split
      all_goals congr 1; rw [Bool.eq_iff_iff]; simp only [decide_eq_true_eq, Bool.false_eq_true, false_iff, Bool.not_eq_true', beq_eq_false_iff_ne, ne_eq, Bool.not_false, true_iff]; omega
    · rw [if_pos h0, if_neg h1]
      congr 1; rw [Bool.eq_iff_iff]; simp only [decide_eq_true_eq, Bool.false_eq_true, false_iff]; omega
  · rw [if_neg h0]
    congr 1; rw [Bool.eq_iff_iff]; simp only [decide_eq_true_eq, Bool.false_eq_true, false_iff]; omega
def cmpI (a c : Int) : Int := if a < c then -1 else if a > c then 1 else 0
def cmpD (a b c d : Int) : Int := if a = c then cmpI b d else cmpI a c
theorem compare_tells (a c : Int) : cmp_Compare_int.f a c = some (cmpI a c) := by
  unfold cmp_Compare_int.f cmp_isNaN_int.f cmpI
  have h0 : (a != a) = false := by simp
  have h1 : (c != c) = false := by simp
  rw [h0, h1]
  simp only [Option.bind_some, Bool.false_eq_true, if_false]
  repeat' split
  all_goals rfl
theorem compareDiagonals_tells (a b c d : Int) (k : Nat) (hk : 3 ≤ k) : impl_compareDiagonals.f k a b c d = some (cmpD a b c d) := by
  obtain ⟨k, rfl⟩ : ∃ q, k = q + 3 := ⟨k - 3, by omega⟩
  unfold impl_compareDiagonals.f cmp_Or_int.f
  rw [compare_tells, compare_tells]
  simp only [Option.bind_some, List.length_cons, List.length_nil]
  have r0 : rd [cmpI a c, cmpI b d] 0 = cmpI a c := rfl
  have r1 : rd [cmpI a c, cmpI b d] 1 = cmpI b d := rfl
  have w0 : wrap64 (0 + 1) = 1 := by unfold wrap64; omega
  have w1 : wrap64 (1 + 1) = 2 := by unfold wrap64; omega
  simp only [cmp_Or_int.l0, w0, w1, r0, r1]
  unfold cmpD
  by_cases e : a = c
  · have z : cmpI a c = 0 := by unfold cmpI; rw [if_neg (by omega), if_neg (by omega)]
    rw [if_pos e, z]
    by_cases z2 : cmpI b d = 0
    · simp [z2]
    · simp [z2]
  · have z : ¬ cmpI a c = 0 := by unfold cmpI; split; · omega
                                  split <;> omega
    rw [if_neg e]
    simp [z]
theorem cmpD_nonneg (a b c d : Int) : cmpD a b c d ≥ 0 ↔ lessB a b c d = false := by
  unfold cmpD cmpI lessB
  rw [decide_eq_false_iff_not]
  repeat' split
  all_goals omega

theorem impl_Diagonal_101_s1_rounds (l : List DG) (c d : Int) (hl : l.length ≤ 4611686018427387904) (e : Nat) : ∀ (i k : Nat), i + e = l.length → e < k →
    ∃ r, impl_Diagonal_101_s1.l0 k l (l.length : Int) (i : Int) c d = some r ∧ (r ≥ 0 ↔ (l.drop i).any (fun z => crossB c d z.f0 z.f1) = true) := by
  induction e with
  | zero =>
    intro i k hi hk
    obtain ⟨k, rfl⟩ : ∃ q, k = q + 1 := ⟨k - 1, by omega⟩
    simp only [impl_Diagonal_101_s1.l0]
    rw [if_neg (by omega), List.drop_of_length_le (by omega)]
    exact ⟨-1, rfl, by simp⟩
  | succ e ih =>
    intro i k hi hk
    obtain ⟨k, rfl⟩ : ∃ q, k = q + 1 := ⟨k - 1, by omega⟩
    obtain ⟨r, hr, hr2⟩ := ih (i + 1) k (by omega) (by omega)
    simp only [impl_Diagonal_101_s1.l0, impl_crosses_1_s2.f]
    rw [if_pos (by omega), if_pos (by omega), if_pos (by omega), doCross_tells, wrap_succ i (by omega), hr, any_take_step _ l i (by omega)]
    simp only [Option.bind_some]
    cases hc : crossB c d (rD l i).f0 (rD l i).f1 with
    | true => exact ⟨i, rfl, by simp⟩
    | false => exact ⟨r, rfl, by rw [Bool.false_or]; exact hr2⟩
theorem impl_Diagonal_95_s0_tells (l : List DG) (c d : Int) (hl : l.length ≤ 4611686018427387904) (k : Nat) (hk : l.length < k) : impl_Diagonal_95_s0.f k l c d = some (l.any fun z => crossB c d z.f0 z.f1) := by
  obtain ⟨r, hr, hr2⟩ := impl_Diagonal_101_s1_rounds l c d hl l.length 0 k (by omega) hk
  unfold impl_Diagonal_95_s0.f impl_Diagonal_101_s1.f
  rw [show ((0 : Nat) : Int) = 0 from rfl] at hr
  rw [hr, Option.bind_some]
  congr 1
  rw [Bool.eq_iff_iff, decide_eq_true_iff, hr2, List.drop_zero]

theorem crosses_tells (l : List DG) (c d : Int) (hl : l.length ≤ 4611686018427387904) (k : Nat) (hk : l.length < k) : impl_crosses.f k l c d = some (l.any fun z => crossB c d z.f0 z.f1) := by
  unfold impl_crosses.f
  rw [impl_Diagonal_95_s0_tells l c d hl k hk]
  rfl

theorem impl_IsCut_rounds (n : Int) (hn : 3 ≤ n ∧ n ≤ 12) (l : List DG) (hl : l.length ≤ 4611686018427387904) (d : Nat) : ∀ (i k : Nat), i + d = l.length → d + l.length + 3 < k →
    impl_IsCut.l0 k n l l (l.length : Int) (i : Int) = some ((List.range' i d).all (stepD n l)) := by
  induction d with
  | zero =>
    intro i k hi hk
    obtain ⟨k, rfl⟩ : ∃ q, k = q + 1 := ⟨k - 1, by omega⟩
    simp only [impl_IsCut.l0]
    rw [if_neg (by omega)]
    rfl
  | succ d ih =>
    intro i k hi hk
    obtain ⟨k, rfl⟩ : ∃ q, k = q + 1 := ⟨k - 1, by omega⟩
    have ht : (l.take i).length = i := by rw [List.length_take]; omega
    have hc : impl_crosses.f k (l.take i) (rD l i).f0 (rD l i).f1 = some ((l.take i).any fun z => crossB (rD l i).f0 (rD l i).f1 z.f0 z.f1) := crosses_tells _ _ _ (by omega) k (by omega)
    simp only [impl_IsCut.l0, Int.toNat_natCast]
    rw [if_pos (by omega), if_pos (by omega), if_pos (by omega), isDiagonal_tells n _ _ hn, Option.bind_some, hc, Option.bind_some, wrap_succ i (by omega), ih (i + 1) k (by omega) (by omega), List.range'_succ, List.all_cons, stepD_def n l i]
    cases diagB n (rD l i).f0 (rD l i).f1 with
    | false => simp
    | true =>
      rw [if_pos rfl]
      by_cases h0 : i = 0
      · subst h0
        rw [if_neg (by omega), if_pos (by omega)]
        cases (l.take 0).any (fun z => crossB (rD l 0).f0 (rD l 0).f1 z.f0 z.f1) <;> simp
      · have b0 : (i == 0) = false := by simp [h0]
        rw [if_pos (by omega), wrap_pred i (by omega) (by omega), if_pos (by omega), if_pos (by omega), compareDiagonals_tells _ _ _ _ k (by omega), Option.bind_some, b0]
        have hcm := cmpD_nonneg (rD l (i - 1)).f0 (rD l (i - 1)).f1 (rD l i).f0 (rD l i).f1
        cases hs : lessB (rD l (i - 1)).f0 (rD l (i - 1)).f1 (rD l i).f0 (rD l i).f1 with
        | false => rw [if_pos (hcm.2 hs)]; simp
        | true =>
          rw [if_neg (fun h => by rw [hcm.1 h] at hs; cases hs), if_pos (by omega)]
          cases (l.take i).any (fun z => crossB (rD l i).f0 (rD l i).f1 z.f0 z.f1) <;> simp

theorem isCut_tells (n : Int) (l : List DG) (hl : l.length ≤ 4611686018427387904) : Ev (fun k => impl_IsCut.f k n l) (isCutB n l) := by
  refine ⟨l.length + l.length + 5, fun k hk => ?_⟩
  obtain ⟨k, rfl⟩ : ∃ q, k = q + 1 := ⟨k - 1, by omega⟩
  show impl_IsCut.f (k + 1) n l = _
  unfold impl_IsCut.f isCutB goodD
  rw [isPolygon_tells, Option.bind_some]
  by_cases hn : 3 ≤ n ∧ n ≤ 12
  · have w : wrap64 (n - 3) = n - 3 := by unfold wrap64; omega
    have h := impl_IsCut_rounds n hn l hl l.length 0 k (by omega) (by omega)
    rw [show ((0 : Nat) : Int) = 0 from rfl] at h
    rw [decide_eq_true hn, if_pos rfl, w]
    simp only [impl_IsCut.j0, h]
    by_cases hc : (l.length : Int) > n - 3
    · rw [decide_eq_true hc, decide_eq_false (by omega)]
      rfl
    · rw [decide_eq_false hc, decide_eq_true (by omega)]
      rfl
  · rw [decide_eq_false hn]
    simp [impl_IsCut.j0]

theorem cut_ok (n : Int) (l : List DG) (h : isCutB n l = true) : (3 ≤ n ∧ n ≤ 12) ∧ (l.length : Int) ≤ n - 3 ∧ ∀ d ∈ l, 0 ≤ d.f0 ∧ d.f1 ≤ n - 1 ∧ 2 ≤ d.f1 - d.f0 ∧ d.f1 - d.f0 ≤ n - 2 := by
  unfold isCutB goodD at h
  simp only [Bool.and_eq_true, decide_eq_true_eq, List.all_eq_true] at h
  obtain ⟨hn, hl, hs⟩ := h
  refine ⟨hn, hl, fun d hd => ?_⟩
  obtain ⟨j, hj, e⟩ := List.getElem_of_mem hd
  have h1 := hs j (List.mem_range'_1.2 ⟨by omega, by omega⟩)
  have hg : rD l j = d := by
    unfold rD rd_T72
    rw [Int.toNat_natCast, List.getD_eq_getElem?_getD, List.getElem?_eq_getElem hj, ← e]
    rfl
  rw [stepD_def, hg] at h1
  simp only [Bool.and_eq_true, diagB, decide_eq_true_eq] at h1
  omega

theorem rd_set (l : List Int) (a v i : Int) (ha : 0 ≤ a ∧ a < (l.length : Int)) (hi : 0 ≤ i) : rd (l.set a.toNat v) i = if i = a then v else rd l i := by
  unfold rd
  rw [List.getD_eq_getElem?_getD, List.getD_eq_getElem?_getD, List.getElem?_set]
  by_cases h : i = a
  · rw [if_pos (by omega), if_pos (by omega), if_pos h]
    rfl
  · rw [if_neg (by omega), if_neg h]
theorem ext_rd (l m : List Int) (hl : l.length = m.length) (h : ∀ i : Int, 0 ≤ i → i < (l.length : Int) → rd l i = rd m i) : l = m := by
  apply List.ext_getElem hl
  intro i h1 h2
  have := h (i : Int) (by omega) (by omega)
  unfold rd at this
  rw [Int.toNat_natCast, List.getD_eq_getElem?_getD, List.getD_eq_getElem?_getD, List.getElem?_eq_getElem h1, List.getElem?_eq_getElem h2] at this
  exact this
/-- How many ends of diagonals lie at a corner. -/
def dg (l : List DG) (i : Int) : Int := ((l.countP fun d => d.f0 == i : Nat) : Int) + ((l.countP fun d => d.f1 == i : Nat) : Int)
theorem dg_perm {l m : List DG} (h : l.Perm m) (i : Int) : dg l i = dg m i := by
  unfold dg
  rw [h.countP_eq, h.countP_eq]
theorem dg_cons (d : DG) (l : List DG) (i : Int) : dg (d :: l) i = dg l i + (if d.f0 = i then 1 else 0) + if d.f1 = i then 1 else 0 := by
  unfold dg
  rw [List.countP_cons, List.countP_cons]
  by_cases h1 : d.f0 = i <;> by_cases h2 : d.f1 = i <;> simp [h1, h2] <;> omega
theorem dg_bounds (l : List DG) (i : Int) : 0 ≤ dg l i ∧ dg l i ≤ 2 * (l.length : Int) := by
  unfold dg
  have h1 := List.countP_le_length (p := fun d : DG => d.f0 == i) (l := l)
  have h2 := List.countP_le_length (p := fun d : DG => d.f1 == i) (l := l)
  omega
theorem quid_l1 (l : List DG) (N : Nat) (hl : l.length ≤ 1000) (hd : ∀ d ∈ l, 0 ≤ d.f0 ∧ d.f0 < d.f1 ∧ d.f1 < (N : Int)) (e : Nat) : ∀ (j : Nat) (x5 : List Int) (D : List DG), j + e = l.length → D.length = j → x5.length = N → (∀ i : Int, 0 ≤ i → i < (N : Int) → rd x5 i = 1 + dg D i) →
    ∃ R, R.length = N ∧ (∀ i : Int, 0 ≤ i → i < (N : Int) → rd R i = 1 + dg (D ++ l.drop j) i) ∧ ∀ k, e < k → spec_poQuiddity.l1 k x5 l (l.length : Int) (j : Int) = some R := by
  induction e with
  | zero =>
    intro j x5 D hj hD hx h
    refine ⟨x5, hx, fun i h1 h2 => ?_, fun k hk => ?_⟩
    · rw [List.drop_of_length_le (by omega), List.append_nil]
      exact h i h1 h2
    · obtain ⟨k, rfl⟩ : ∃ q, k = q + 1 := ⟨k - 1, by omega⟩
      simp only [spec_poQuiddity.l1]
      rw [if_neg (by omega)]
  | succ e ih =>
    intro j x5 D hj hD hx h
    have hm : rD l j ∈ l := by
      have : rD l j ∈ l.drop j := by
        rw [rD_drop l j (by omega)]
        exact List.mem_cons_self ..
      exact List.mem_of_mem_drop this
    have hok := hd _ hm
    have hb := dg_bounds D
    obtain ⟨y, hy⟩ : ∃ y, y = x5.set (rD l j).f0.toNat (rd x5 (rD l j).f0 + 1) := ⟨_, rfl⟩
    have hyl : y.length = N := by rw [hy, List.length_set]; exact hx
    have hy1 : rd y (rD l j).f1 = rd x5 (rD l j).f1 := by
      rw [hy, rd_set _ _ _ _ (by omega) (by omega), if_neg (by omega)]
    have w1 : wrap64 (rd x5 (rD l j).f0 + 1) = rd x5 (rD l j).f0 + 1 := by
      have h1 := h (rD l j).f0 (by omega) (by omega)
      have h2 := hb (rD l j).f0
      rw [h1]
      unfold wrap64
      omega
    have w2 : wrap64 (rd y (rD l j).f1 + 1) = rd x5 (rD l j).f1 + 1 := by
      have h1 := h (rD l j).f1 (by omega) (by omega)
      have h2 := hb (rD l j).f1
      rw [hy1, h1]
      unfold wrap64
      omega
    obtain ⟨R, r1, r2, r3⟩ := ih (j + 1) (y.set (rD l j).f1.toNat (rd x5 (rD l j).f1 + 1)) (D ++ [rD l j]) (by omega) (by rw [List.length_append, List.length_singleton]; omega) (by rw [List.length_set]; exact hyl) (by
      intro i h1 h2
      have h3 := h i h1 h2
      have hp : dg (D ++ [rD l j]) i = dg (rD l j :: D) i := dg_perm (List.perm_append_singleton _ _) i
      rw [rd_set _ _ _ _ (by omega) h1, hp, dg_cons, hy]
      by_cases e1 : i = (rD l j).f1
      · rw [if_pos e1, if_neg (by omega), if_pos e1.symm, ← e1, h3]
        omega
      · rw [if_neg e1, rd_set _ _ _ _ (by omega) h1, if_neg (show ¬ (rD l j).f1 = i by omega)]
        by_cases e0 : i = (rD l j).f0
        · rw [if_pos e0, if_pos e0.symm, ← e0, h3]
          omega
        · rw [if_neg e0, if_neg (by omega), h3]
          omega)
    refine ⟨R, r1, ?_, fun k hk => ?_⟩
    · rw [rD_drop l j (by omega)]
      simpa using r2
    · obtain ⟨k, rfl⟩ : ∃ q, k = q + 1 := ⟨k - 1, by omega⟩
      have h3 := r3 k (by omega)
      simp only [spec_poQuiddity.l1]
      have g1 : (rD l j).f0 < (x5.length : Int) := by omega
      have g2 : 0 ≤ (rD l j).f1 := by omega
      have g3 : (rD l j).f1 < (x5.length : Int) := by omega
      rw [if_pos (by omega), if_pos (by omega), if_pos (by omega), if_pos hok.1, if_pos g1, w1]
      simp only [Option.bind_some]
      rw [if_pos g2, if_pos g3, ← hy, w2, wrap_succ j (by omega)]
      exact h3
theorem quid_l0 (l : List DG) (N : Nat) (hl : l.length ≤ 1000) (hN : N ≤ 1000) (hd : ∀ d ∈ l, 0 ≤ d.f0 ∧ d.f0 < d.f1 ∧ d.f1 < (N : Int)) (e : Nat) : ∀ (j : Nat) (x5 : List Int), j + e = N → x5.length = N → (∀ i : Int, 0 ≤ i → i < (j : Int) → rd x5 i = 1) →
    ∃ R, R.length = N ∧ (∀ i : Int, 0 ≤ i → i < (N : Int) → rd R i = 1 + dg l i) ∧ ∀ k, e + l.length + 1 < k → spec_poQuiddity.l0 k l x5 (N : Int) (j : Int) = some R := by
  induction e with
  | zero =>
    intro j x5 hj hx h
    obtain ⟨R, r1, r2, r3⟩ := quid_l1 l N hl hd l.length 0 x5 [] (by omega) rfl hx (fun i h1 h2 => by rw [h i h1 (by omega)]; rfl)
    refine ⟨R, r1, by simpa using r2, fun k hk => ?_⟩
    obtain ⟨k, rfl⟩ : ∃ q, k = q + 1 := ⟨k - 1, by omega⟩
    simp only [spec_poQuiddity.l0]
    rw [if_neg (by omega)]
    exact r3 k (by omega)
  | succ e ih =>
    intro j x5 hj hx h
    obtain ⟨R, r1, r2, r3⟩ := ih (j + 1) (x5.set (j : Int).toNat 1) (by omega) (by rw [List.length_set]; exact hx) (by
      intro i h1 h2
      rw [rd_set _ _ _ _ (by omega) h1]
      by_cases e0 : i = (j : Int)
      · rw [if_pos e0]
      · rw [if_neg e0]
        exact h i h1 (by omega))
    refine ⟨R, r1, r2, fun k hk => ?_⟩
    obtain ⟨k, rfl⟩ : ∃ q, k = q + 1 := ⟨k - 1, by omega⟩
    simp only [spec_poQuiddity.l0]
    rw [if_pos (by omega), if_pos (by omega), if_pos (by omega), wrap_succ j (by omega)]
    exact r3 k (by omega)
theorem poQuiddity_tells (n : Int) (l : List DG) (hn : 3 ≤ n ∧ n ≤ 12) (hl : l.length ≤ 1000) (hd : ∀ d ∈ l, 0 ≤ d.f0 ∧ d.f0 < d.f1 ∧ d.f1 < n) :
    ∃ R, R.length = n.toNat ∧ (∀ i : Int, 0 ≤ i → i < n → rd R i = 1 + dg l i) ∧ ∀ k, l.length + 20 < k → spec_poQuiddity.f k n l = some R := by
  obtain ⟨R, r1, r2, r3⟩ := quid_l0 l n.toNat hl (by omega) (fun d h => by have := hd d h; omega) n.toNat 0 (List.replicate n.toNat 0) (by omega) (by simp) (by omega)
  refine ⟨R, r1, fun i h1 h2 => r2 i h1 (by omega), fun k hk => ?_⟩
  unfold spec_poQuiddity.f
  rw [if_pos (by omega), if_pos (by omega), Option.bind_some, List.length_replicate]
  exact r3 k (by omega)

theorem quid_same (x11 : List DG) (x12 : Int) : ∀ (k : Nat) (x5 : List Int) (x13 : Int), impl_quiddity.l0 k x5 x11 x12 x13 = spec_poQuiddity.l1 k x5 x11 x12 x13
  | 0, _, _ => rfl
  | k + 1, x5, x13 => by
    simp only [impl_quiddity.l0, spec_poQuiddity.l1, quid_same x11 x12 k]
theorem mul_one_n (n : Int) (h : 3 ≤ n ∧ n ≤ 12) : bits_Mul.f 1 n = some (0, n) := by
  have : n = 3 ∨ n = 4 ∨ n = 5 ∨ n = 6 ∨ n = 7 ∨ n = 8 ∨ n = 9 ∨ n = 10 ∨ n = 11 ∨ n = 12 := by omega
  rcases this with rfl | rfl | rfl | rfl | rfl | rfl | rfl | rfl | rfl | rfl <;> rfl
theorem quiddity_tells (n : Int) (l : List DG) (hn : 3 ≤ n ∧ n ≤ 12) (hl : l.length ≤ 1000) (hd : ∀ d ∈ l, 0 ≤ d.f0 ∧ d.f0 < d.f1 ∧ d.f1 < n) :
    ∃ R, R.length = n.toNat ∧ (∀ i : Int, 0 ≤ i → i < n → rd R i = 1 + dg l i) ∧ ∀ k, l.length + 20 < k → spec_poQuiddity.f k n l = some R ∧ impl_quiddity.f k n l = some R := by
  obtain ⟨R, r1, r2, r3⟩ := poQuiddity_tells n l hn hl hd
  obtain ⟨R2, q1, q2, q3⟩ := quid_l1 l n.toNat hl (fun d h => by have := hd d h; omega) l.length 0 (List.replicate n.toNat 1) [] (by omega) rfl (by simp) (fun i h1 h2 => by
    unfold rd
    rw [List.getD_eq_getElem?_getD, List.getElem?_replicate, if_pos (by omega)]
    rfl)
  have e : R2 = R := by
    refine ext_rd _ _ (by omega) (fun i h1 h2 => ?_)
    rw [q2 i h1 (by omega), r2 i h1 (by omega)]
    rfl
  refine ⟨R, r1, r2, fun k hk => ⟨r3 k hk, ?_⟩⟩
  have hrep : slices_Repeat_int_int.f [1] n = some (List.replicate n.toNat 1) := by
    unfold slices_Repeat_int_int.f
    rw [if_pos ⟨rfl, by omega, by omega, mul_one_n n hn⟩]
    rfl
  have h3 := q3 k (by omega)
  rw [show ((0 : Nat) : Int) = 0 from rfl, e] at h3
  unfold impl_quiddity.f
  rw [hrep, Option.bind_some, quid_same]
  exact h3

def conv72 (x : S82) : S72 := ⟨x.f0, x.f1⟩
theorem toS72_rounds (x0 : List S82) (hl : x0.length ≤ 1048576) (d : Nat) : ∀ (i k : Nat) (x3 : List S72), x3.length = x0.length → i + d = x0.length → d < k →
    laws_toDiagonalS.l0 k x0 x3 (i : Int) = some (x3.take i ++ (x0.drop i).map conv72) := by
  induction d with
  | zero =>
    intro i k x3 h3 hi hk
    obtain ⟨k, rfl⟩ : ∃ m, k = m + 1 := ⟨k - 1, by omega⟩
    simp only [laws_toDiagonalS.l0]
    rw [if_neg (by omega), List.drop_of_length_le (by omega), List.take_of_length_le (by omega), List.map_nil, List.append_nil]
  | succ d ih =>
    intro i k x3 h3 hi hk
    obtain ⟨k, rfl⟩ : ∃ m, k = m + 1 := ⟨k - 1, by omega⟩
    simp only [laws_toDiagonalS.l0, laws_toDiagonal.f, Option.bind_some]
    rw [if_pos (by omega), if_pos (by omega), if_pos (by omega), wrap_succ i (by omega), ih (i + 1) k _ (by rw [List.length_set]; exact h3) (by omega) (by omega), Int.toNat_natCast, take_set_succ _ _ _ (by omega), getD_drop x0 z82 i (by omega), List.map_cons]
    simp [rd_T82, conv72]
theorem toS72_tells (x0 : List S82) (hl : x0.length ≤ 1048576) : Ev (fun k => laws_toDiagonalS.f k x0) (x0.map conv72) := by
  refine ⟨x0.length + 1, fun k hk => ?_⟩
  show laws_toDiagonalS.f k x0 = _
  unfold laws_toDiagonalS.f
  rw [if_pos (by omega), if_pos (by omega), Int.toNat_natCast]
  have h := toS72_rounds x0 hl x0.length 0 k (List.replicate x0.length z72) (by simp) (by omega) (by omega)
  simpa using h
theorem eqS72_rounds (l : List S72) (hl : l.length ≤ 4611686018427387904) (d : Nat) : ∀ (i k : Nat), i + d = l.length → d < k → laws_eqDiagonalS.l0 k l l (i : Int) = some true := by
  induction d with
  | zero =>
    intro i k hi hk
    obtain ⟨k, rfl⟩ : ∃ m, k = m + 1 := ⟨k - 1, by omega⟩
    simp only [laws_eqDiagonalS.l0]
    rw [if_neg (by omega)]
  | succ d ih =>
    intro i k hi hk
    obtain ⟨k, rfl⟩ : ∃ m, k = m + 1 := ⟨k - 1, by omega⟩
    simp only [laws_eqDiagonalS.l0, laws_eqDiagonal.f, if_true, Option.bind_some]
    rw [if_pos (by omega), if_pos (by omega), if_pos (by omega), wrap_succ i (by omega)]
    exact ih (i + 1) k (by omega) (by omega)
theorem eqS72_tells (l : List S72) (hl : l.length ≤ 4611686018427387904) : Ev (fun k => laws_eqDiagonalS.f k l l) true := by
  refine ⟨l.length + 1, fun k hk => ?_⟩
  show laws_eqDiagonalS.f k l l = _
  unfold laws_eqDiagonalS.f
  rw [if_pos rfl]
  exact eqS72_rounds l hl l.length 0 k (by omega) (by omega)
theorem sz72_tells (l : List S82) (n : Int) (h0 : 0 ≤ n) (h1 : n ≤ 1048576) (hl : l.length ≤ 4611686018427387904) : laws_szDiagonalS.f l n = some (if n - (l.length : Int) < 0 then -1 else n - (l.length : Int)) := by
  unfold laws_szDiagonalS.f
  have w : wrap64 (n - (l.length : Int)) = n - (l.length : Int) := by unfold wrap64; omega
  rw [w]
  split <;> rfl
theorem sz72_any (l : List S82) (n : Int) (h0 : 0 ≤ n) (h1 : n ≤ 1048576) (hl : l.length ≤ maxLen) : ∃ r, laws_szDiagonalS.f l n = some r ∧ (r < 0 ∨ (0 ≤ r ∧ r = n - (l.length : Int))) := by
  unfold maxLen at hl
  unfold laws_szDiagonalS.f
  by_cases h : wrap64 (n - (l.length : Int)) < 0
  · rw [if_pos h]
    exact ⟨_, rfl, .inl (by omega)⟩
  · rw [if_neg h]
    have w : wrap64 (n - (l.length : Int)) = n - (l.length : Int) := by unfold wrap64 at h ⊢; omega
    exact ⟨_, rfl, .inr ⟨by omega, w⟩⟩

def iota72 : Int → Nat → List S72
  | _, 0 => []
  | v, m + 1 => ⟨v, v + 1⟩ :: iota72 (v + 2) m
theorem iota72_len : ∀ (m : Nat) (v : Int), (iota72 v m).length = m
  | 0, _ => rfl
  | m + 1, v => by rw [iota72, List.length_cons, iota72_len m]
theorem mark72_rounds (l : List S72) (hl : l.length ≤ 1048576) (e : Nat) : ∀ (i k : Nat) (P R : List S72) (v0 v : Int), P.length = i → R.length = e → i + e = l.length → 0 ≤ v0 → v0 ≤ 100000000 → v = v0 + 2 * (i : Int) → e < k →
    laws_markDiagonalS.l0 k (P ++ R) v (i : Int) = some (v0 + 2 * (l.length : Int), P ++ iota72 v e) := by
  induction e with
  | zero =>
    intro i k P R v0 v hP hR hi h00 h01 hv hk
    obtain ⟨k, rfl⟩ : ∃ q, k = q + 1 := ⟨k - 1, by omega⟩
    have : R = [] := List.length_eq_zero_iff.1 hR
    subst this
    simp only [laws_markDiagonalS.l0, List.append_nil, iota72]
    rw [if_neg (by omega), hv, show i = l.length by omega]
  | succ e ih =>
    intro i k P R v0 v hP hR hi h00 h01 hv hk
    obtain ⟨k, rfl⟩ : ∃ q, k = q + 1 := ⟨k - 1, by omega⟩
    cases R with
    | nil => simp at hR
    | cons x R =>
      rw [List.length_cons] at hR
      have w1 : wrap64 (v + 1) = v + 1 := by unfold wrap64; omega
      have w2 : wrap64 (v + 1 + 1) = v + 2 := by unfold wrap64; omega
      have s1 : ∀ y z : S72, (P ++ y :: R).set i z = P ++ z :: R := by
        intro y z
        rw [List.set_append_right _ _ (by omega), hP, Nat.sub_self]
        rfl
      have r1 : ∀ y : S72, rd_T72 (P ++ y :: R) (i : Int) = y := by
        intro y
        unfold rd_T72
        rw [Int.toNat_natCast, List.getD_eq_getElem?_getD, ← hP]
        simp
      simp only [laws_markDiagonalS.l0, Int.toNat_natCast, Option.bind_some, s1, r1, w1, w2]
      rw [if_pos (by rw [List.length_append, List.length_cons]; omega), if_pos (by omega), wrap_succ i (by omega)]
      have h := ih (i + 1) k (P ++ [⟨v, v + 1⟩]) R v0 (v + 2) (by rw [List.length_append, List.length_singleton]; omega) (by omega) (by omega) h00 h01 (by omega) (by omega)
      rw [iota72]
      simpa using h
theorem mark72_any (l : List S72) (hl : l.length ≤ 1048576) (v : Int) (h0 : 0 ≤ v) (h1 : v ≤ 100000000) (k : Nat) (hk : l.length < k) : laws_markDiagonalS.f k l v = some (v + 2 * (l.length : Int), iota72 v l.length) := by
  have h := mark72_rounds l hl l.length 0 k [] l v v rfl rfl (by omega) h0 h1 (by omega) hk
  unfold laws_markDiagonalS.f
  simpa using h
theorem mark72_tells (l : List S72) (hl : l.length ≤ 1048576) (k : Nat) (hk : l.length < k) : laws_markDiagonalS.f k l 1 = some (1 + 2 * (l.length : Int), iota72 1 l.length) :=
  mark72_any l hl 1 (by omega) (by omega) k hk

theorem eqI_rounds (l : List Int) (hl : l.length ≤ 1048576) (d : Nat) : ∀ (i k : Nat), i + d = l.length → d < k → laws_eqIntS.l0 k l l (i : Int) = some true := by
  induction d with
  | zero =>
    intro i k hi hk
    obtain ⟨k, rfl⟩ : ∃ m, k = m + 1 := ⟨k - 1, by omega⟩
    simp only [laws_eqIntS.l0]
    rw [if_neg (by omega)]
  | succ d ih =>
    intro i k hi hk
    obtain ⟨k, rfl⟩ : ∃ m, k = m + 1 := ⟨k - 1, by omega⟩
    simp only [laws_eqIntS.l0, if_true]
    rw [if_pos (by omega), if_pos (by omega), if_pos (by omega), wrap_succ i (by omega)]
    exact ih (i + 1) k (by omega) (by omega)
theorem eqI_tells (l : List Int) (hl : l.length ≤ 1048576) (k : Nat) (hk : l.length < k) : laws_eqIntS.f k l l = some true := by
  unfold laws_eqIntS.f
  rw [if_pos rfl]
  exact eqI_rounds l hl l.length 0 k (by omega) hk
def iotaI : Int → Nat → List Int
  | _, 0 => []
  | v, m + 1 => v :: iotaI (v + 1) m
theorem iotaI_len : ∀ (m : Nat) (v : Int), (iotaI v m).length = m
  | 0, _ => rfl
  | m + 1, v => by rw [iotaI, List.length_cons, iotaI_len m]
theorem markI_rounds (L : Nat) (hl : L ≤ 1048576) (e : Nat) : ∀ (i k : Nat) (P R : List Int) (v : Int), P.length = i → R.length = e → i + e = L → v = 1 + (i : Int) → e < k →
    laws_markIntS.l0 k (P ++ R) v (i : Int) = some (1 + (L : Int), P ++ iotaI v e) := by
  induction e with
  | zero =>
    intro i k P R v hP hR hi hv hk
    obtain ⟨k, rfl⟩ : ∃ q, k = q + 1 := ⟨k - 1, by omega⟩
    have : R = [] := List.length_eq_zero_iff.1 hR
    subst this
    simp only [laws_markIntS.l0, List.append_nil, iotaI]
    rw [if_neg (by omega), hv, show i = L by omega]
  | succ e ih =>
    intro i k P R v hP hR hi hv hk
    obtain ⟨k, rfl⟩ : ∃ q, k = q + 1 := ⟨k - 1, by omega⟩
    cases R with
    | nil => simp at hR
    | cons x R =>
      rw [List.length_cons] at hR
      have w1 : wrap64 (v + 1) = v + 1 := by unfold wrap64; omega
      have s1 : ∀ y z : Int, (P ++ y :: R).set i z = P ++ z :: R := by
        intro y z
        rw [List.set_append_right _ _ (by omega), hP, Nat.sub_self]
        rfl
      simp only [laws_markIntS.l0, Int.toNat_natCast, s1, w1]
      rw [if_pos (by rw [List.length_append, List.length_cons]; omega), if_pos (by omega), wrap_succ i (by omega)]
      have h := ih (i + 1) k (P ++ [v]) R (v + 1) (by rw [List.length_append, List.length_singleton]; omega) (by omega) (by omega) (by omega) (by omega)
      rw [iotaI]
      simpa using h
theorem markI_tells (l : List Int) (hl : l.length ≤ 1048576) (k : Nat) (hk : l.length < k) : laws_markIntS.f k l 1 = some (1 + (l.length : Int), iotaI 1 l.length) := by
  have h := markI_rounds l.length hl l.length 0 k [] l 1 rfl rfl (by omega) (by omega) hk
  unfold laws_markIntS.f
  simpa using h

theorem heldI_rounds (L : Nat) (hl : L ≤ 1048576) (e : Nat) : ∀ (i k : Nat) (P : List Int) (v : Int), P.length = i → i + e = L → v = 1 + (i : Int) → e < k →
    laws_heldIntS.l0 k (P ++ iotaI v e) v (i : Int) = some (1 + (L : Int)) := by
  induction e with
  | zero =>
    intro i k P v hP hi hv hk
    obtain ⟨k, rfl⟩ : ∃ q, k = q + 1 := ⟨k - 1, by omega⟩
    simp only [laws_heldIntS.l0, iotaI, List.append_nil]
    rw [if_neg (by omega), hv, show i = L by omega]
  | succ e ih =>
    intro i k P v hP hi hv hk
    obtain ⟨k, rfl⟩ : ∃ q, k = q + 1 := ⟨k - 1, by omega⟩
    have w1 : wrap64 (v + 1) = v + 1 := by unfold wrap64; omega
    have r1 : rd (P ++ iotaI v (e + 1)) (i : Int) = v := by
      unfold rd
      rw [Int.toNat_natCast, List.getD_eq_getElem?_getD, ← hP, iotaI]
      simp
    simp only [laws_heldIntS.l0, r1, w1, if_true]
    rw [if_pos (by rw [List.length_append, iotaI_len]; omega), if_pos (by omega), wrap_succ i (by omega)]
    have h := ih (i + 1) k (P ++ [v]) (v + 1) (by rw [List.length_append, List.length_singleton]; omega) (by omega) (by omega) (by omega)
    rw [iotaI]
    simpa using h
theorem heldI_tells (L : Nat) (hl : L ≤ 1048576) (k : Nat) (hk : L < k) : laws_heldIntS.f k (iotaI 1 L) 1 = some (1 + (L : Int)) := by
  have h := heldI_rounds L hl L 0 k [] 1 rfl (by omega) (by omega) hk
  unfold laws_heldIntS.f
  simpa using h

/-- What both return. -/
theorem both (n : Int) (C : List DG) (hc : C.length ≤ 1048576) : ∃ K r ok, r.length ≤ 1048576 ∧ ∀ k, K ≤ k → spec_PiecesAtCorners.f k n C = some (r, ok) ∧ impl_PiecesAtCorners.f k n C = some (r, ok) := by
  obtain ⟨K, e1, e2⟩ := Ev.at2 (cuGood_tells n C (by omega)) (isCut_tells n C (by omega))
  have E1 : ∀ k, K ≤ k → spec_cuGood.f k n C = some (isCutB n C) := fun k hk => by rw [show k = K + (k - K) by omega]; exact e1 _
  have E2 : ∀ k, K ≤ k → impl_IsCut.f k n C = some (isCutB n C) := fun k hk => by rw [show k = K + (k - K) by omega]; exact e2 _
  cases ht : isCutB n C
  · refine ⟨K, [], false, by simp, fun k hk => ?_⟩
    simp [spec_PiecesAtCorners.f, impl_PiecesAtCorners.f, E1 k hk, E2 k hk, ht]
  · obtain ⟨hn, hl, hok⟩ := cut_ok n C ht
    obtain ⟨R, r1, r2, r3⟩ := quiddity_tells n C hn (by omega) (fun d hd => by have := hok d hd; omega)
    refine ⟨K + 100, R, true, by omega, fun k hk => ?_⟩
    have h3 := r3 k (by omega)
    simp [spec_PiecesAtCorners.f, impl_PiecesAtCorners.f, E1 k (by omega), E2 k (by omega), ht, h3.1, h3.2]

theorem FnExactPiecesAtCorners (n : Int) (l : List S82) (_ : (Lit.int .i64 n).wf = true) (hm_l : l.length ≤ maxLen) (_ : ∀ y ∈ l, (Lit.int .i64 y.f0).wf = true ∧ (Lit.int .i64 y.f1).wf = true) :
    ∃ k, laws_FnExactPiecesAtCorners.f k n l = some true := by
  obtain ⟨q0, hr0, hz0⟩ := sz72_any l 1048576 (by omega) (by omega) hm_l
  rcases hz0 with hz0 | ⟨hz0, hy0⟩
  · refine ⟨0, ?_⟩
    unfold laws_FnExactPiecesAtCorners.f
    rw [hr0, Option.bind_some, if_pos hz0]
  ·
    obtain ⟨Cl, hCl⟩ : ∃ C, C = l.map conv72 := ⟨_, rfl⟩
    have hcl : Cl.length ≤ 1048576 := by rw [hCl, List.length_map]; omega
    obtain ⟨K1, r, ok, hrl, hb⟩ := both n Cl hcl
    obtain ⟨K2, e0, e1⟩ := Ev.at2 (toS72_tells l (by omega)) (eqS72_tells Cl (by omega))
    simp only [← hCl] at e0
    obtain ⟨K3, hK3⟩ : ∃ K3 : Nat, K3 = 0 := ⟨_, rfl⟩
    obtain ⟨M, hM⟩ : ∃ M, M = K1 + (K2 + (K3 + (Cl.length + r.length + 1))) := ⟨_, rfl⟩
    have b1 : ∀ j, spec_PiecesAtCorners.f (M + j) n Cl = some (r, ok) := fun j => (hb (M + j) (by omega)).1
    have b2 : ∀ j, impl_PiecesAtCorners.f (M + j) n Cl = some (r, ok) := fun j => (hb (M + j) (by omega)).2
    have t0 : ∀ j, laws_toDiagonalS.f (M + j) l = some Cl := fun j => by rw [show M + j = K2 + (M + j - K2) by omega]; exact e0 _
    have c0 : ∀ j, laws_eqDiagonalS.f (M + j) Cl Cl = some true := fun j => by rw [show M + j = K2 + (M + j - K2) by omega]; exact e1 _
    have m0 : ∀ j, laws_markDiagonalS.f (M + j) Cl 1 = _ := fun j => mark72_tells Cl hcl (M + j) (by omega)
    have er : ∀ j, laws_eqIntS.f (M + j) r r = some true := fun j => eqI_tells r hrl (M + j) (by omega)
    have mr : ∀ j, laws_markIntS.f (M + j) r 1 = _ := fun j => markI_tells r hrl (M + j) (by omega)
    have hd : ∀ j, laws_heldIntS.f (M + j) (iotaI 1 r.length) 1 = _ := fun j => heldI_tells r.length hrl (M + j) (by omega)
    have j2 : laws_FnExactPiecesAtCorners.j2 (M + 2) (iotaI 1 r.length) (1 + (r.length : Int)) false = some true := by
      simp only [laws_FnExactPiecesAtCorners.j2, hd, Option.bind_some, Bool.false_eq_true, if_false, if_true]
      rw [if_neg (by omega)]
    have j1 : laws_FnExactPiecesAtCorners.j1 (M + 3) n l r ok r false = some true := by
      simp only [laws_FnExactPiecesAtCorners.j1, mr, hd, t0, b2, er, Option.bind_some, Bool.false_eq_true, if_false, if_true]
      rw [if_neg (by omega), bne_self_eq_false]
      exact j2
    have j0 : laws_FnExactPiecesAtCorners.j0 (M + 4) n l r ok Cl r ok false = some true := by
      simp only [laws_FnExactPiecesAtCorners.j0, t0, c0, er, m0, Option.bind_some, Bool.false_eq_true, if_false, if_true]
      rw [if_neg (by omega), bne_self_eq_false]
      exact j1
    refine ⟨M + 4, ?_⟩
    simp only [laws_FnExactPiecesAtCorners.f, hr0, Option.bind_some, b1, b2, t0, er, if_true]
    rw [if_neg (by omega), bne_self_eq_false]
    exact j0

end Go.Proofs.Ytnikefebkcminaa.PureFnExactPiecesAtCorners
