/- The program's AllClasses and the reference's return the same for every number of corners: both list all triangulations and keep those that are the first ones of their classes. No condition. -/
import Derived.Test.YtgblginphicacaaPFnExactAllClassesx0
import Derived.Test.YtgblginphicacaaPFnExactAllClassesx1
import Derived.Test.YtgblginphicacaaPFnExactAllClassesx10
import Derived.Test.YtgblginphicacaaPFnExactAllClassesx11
import Derived.Test.YtgblginphicacaaPFnExactAllClassesx12
import Derived.Test.YtgblginphicacaaPFnExactAllClassesx13
import Derived.Test.YtgblginphicacaaPFnExactAllClassesx14
import Derived.Test.YtgblginphicacaaPFnExactAllClassesx15
import Derived.Test.YtgblginphicacaaPFnExactAllClassesx2
import Derived.Test.YtgblginphicacaaPFnExactAllClassesx3
import Derived.Test.YtgblginphicacaaPFnExactAllClassesx4
import Derived.Test.YtgblginphicacaaPFnExactAllClassesx5
import Derived.Test.YtgblginphicacaaPFnExactAllClassesx6
import Derived.Test.YtgblginphicacaaPFnExactAllClassesx7
import Derived.Test.YtgblginphicacaaPFnExactAllClassesx8
import Derived.Test.YtgblginphicacaaPFnExactAllClassesx9
set_option linter.unusedSimpArgs false
set_option linter.unnecessarySimpa false
set_option linter.unusedVariables false
namespace Go.Proofs.Ytgblginphicacaa.PureFnExactAllClasses
open Go.RowKit Go.Proofs.Ytgblginphicacaa.PFnExactAllClasses Go.Proofs.YtgblginphicacaaW.PrintWords Go.Proofs.YtgblginphicacaaW.PrintLast

theorem Ev.at1 {α : Type} {g : Nat → Option α} {r : α} (h : Ev g r) : ∃ K, ∀ j, g (K + j) = some r := by
 obtain ⟨K, h⟩ := h
 exact ⟨K, fun j => h _ (by omega)⟩
theorem Ev.at2 {α β : Type} {g : Nat → Option α} {r : α} {g2 : Nat → Option β} {r2 : β} (h : Ev g r) (h2 : Ev g2 r2) : ∃ K, (∀ j, g (K + j) = some r) ∧ ∀ j, g2 (K + j) = some r2 := by
 obtain ⟨K, h⟩ := h
 obtain ⟨K2, h2⟩ := h2
 exact ⟨K + K2, fun j => h _ (by omega), fun j => h2 _ (by omega)⟩
theorem Ev.at3 {α β γ : Type} {g : Nat → Option α} {r : α} {g2 : Nat → Option β} {r2 : β} {g3 : Nat → Option γ} {r3 : γ} (h : Ev g r) (h2 : Ev g2 r2) (h3 : Ev g3 r3) :
  ∃ K, (∀ j, g (K + j) = some r) ∧ (∀ j, g2 (K + j) = some r2) ∧ ∀ j, g3 (K + j) = some r3 := by
 obtain ⟨K, h⟩ := h
 obtain ⟨K2, h2⟩ := h2
 obtain ⟨K3, h3⟩ := h3
 exact ⟨K + K2 + K3, fun j => h _ (by omega), fun j => h2 _ (by omega), fun j => h3 _ (by omega)⟩
theorem Ev.at4 {α β γ δ : Type} {g : Nat → Option α} {r : α} {g2 : Nat → Option β} {r2 : β} {g3 : Nat → Option γ} {r3 : γ} {g4 : Nat → Option δ} {r4 : δ} (h : Ev g r) (h2 : Ev g2 r2) (h3 : Ev g3 r3) (h4 : Ev g4 r4) :
  ∃ K, (∀ j, g (K + j) = some r) ∧ (∀ j, g2 (K + j) = some r2) ∧ (∀ j, g3 (K + j) = some r3) ∧ ∀ j, g4 (K + j) = some r4 := by
 obtain ⟨K, e1, e2, e3⟩ := Ev.at3 h h2 h3
 obtain ⟨K4, h4⟩ := h4
 exact ⟨K + K4, fun j => by rw [Nat.add_assoc]; exact e1 _, fun j => by rw [Nat.add_assoc]; exact e2 _, fun j => by rw [Nat.add_assoc]; exact e3 _, fun j => h4 _ (by omega)⟩
theorem Ev.all {α β : Type} {g : α → Nat → Option β} {r : α → β} (l : List α) (h : ∀ x, x ∈ l → Ev (g x) (r x)) : ∃ K, ∀ x, x ∈ l → ∀ k, K ≤ k → g x k = some (r x) := by
 induction l with
 | nil => exact ⟨0, fun x hx => by cases hx⟩
 | cons y l ih =>
  obtain ⟨K, hK⟩ := ih (fun x hx => h x (List.mem_cons_of_mem _ hx))
  obtain ⟨K2, hK2⟩ := h y (List.mem_cons_self ..)
  refine ⟨K + K2, fun x hx k hk => ?_⟩
  rcases List.mem_cons.1 hx with e | e
  ·subst e
   exact hK2 k (by omega)
  ·exact hK x e k (by omega)

theorem take_set_succ {α : Type} (l : List α) (i : Nat) (v : α) (h : i < l.length) : (l.set i v).take (i + 1) = l.take i ++ [v] := by
 rw [List.take_succ_eq_append_getElem (by rw [List.length_set]; exact h), List.getElem_set_self, List.take_set_of_le (Nat.le_refl i)]
theorem getD_drop {α : Type} (l : List α) (d : α) (i : Nat) (h : i < l.length) : l.drop i = l.getD i d :: l.drop (i + 1) := by
 rw [List.drop_eq_getElem_cons h, List.getD_eq_getElem?_getD, List.getElem?_eq_getElem h]
 rfl
theorem wrap_succ (i : Nat) (h : i < 4611686018427387904) : wrap64 ((i : Int) + 1) = ((i + 1 : Nat) : Int) := by unfold wrap64; omega
theorem wrap_pred (i : Nat) (h0 : 0 < i) (h : i < 4611686018427387904) : wrap64 ((i : Int) - 1) = ((i - 1 : Nat) : Int) := by unfold wrap64; omega

theorem l1In_tells (a b c : Int) : spec_l1In.f a b c = some (decide (b ≤ a ∧ a ≤ c)) := by
 unfold spec_l1In.f
 by_cases h : a ≥ b
 ·rw [if_pos h]
  have : b ≤ a := h
  simp [this]
 ·rw [if_neg h]
  have : ¬ b ≤ a := h
  simp [this]

theorem within_tells (a b c : Int) : impl_within.f a b c = some (decide (b ≤ a ∧ a ≤ c)) := by
 unfold impl_within.f
 by_cases h : a ≥ b
 ·rw [if_pos h]
  have : b ≤ a := h
  simp [this]
 ·rw [if_neg h]
  have : ¬ b ≤ a := h
  simp [this]

abbrev DG := S52
abbrev rD (l : List DG) (j : Nat) : DG := rd_T52 l (j : Int)
def crossB (a b c d : Int) : Bool := decide (a < c ∧ c < b ∧ b < d) || decide (c < a ∧ a < d ∧ d < b)
def diagB (n a b : Int) : Bool := decide (0 ≤ a ∧ b ≤ n - 1 ∧ b - a ≥ 2 ∧ b - a ≤ n - 2)
def lessB (a b c d : Int) : Bool := decide (a < c ∨ (a = c ∧ b < d))
def stepD (n : Int) (l : List DG) (j : Nat) : Bool :=
 diagB n (rD l j).f0 (rD l j).f1 && ((j == 0 || lessB (rD l (j - 1)).f0 (rD l (j - 1)).f1 (rD l j).f0 (rD l j).f1) && !(l.take j).any fun e => crossB (rD l j).f0 (rD l j).f1 e.f0 e.f1)
theorem stepD_def (n : Int) (l : List DG) (j : Nat) : stepD n l j = (diagB n (rD l j).f0 (rD l j).f1 && ((j == 0 || lessB (rD l (j - 1)).f0 (rD l (j - 1)).f1 (rD l j).f0 (rD l j).f1) && !(l.take j).any fun e => crossB (rD l j).f0 (rD l j).f1 e.f0 e.f1)) := rfl
def goodD (n : Int) (l : List DG) : Bool := (List.range' 0 l.length).all (stepD n l)

theorem rD_drop (l : List DG) (i : Nat) (h : i < l.length) : l.drop i = rD l i :: l.drop (i + 1) := by
 rw [getD_drop l z52 i h]
 unfold rD rd_T52
 rw [Int.toNat_natCast]
theorem any_take_step (p : DG → Bool) (l : List DG) (i : Nat) (h : i < l.length) : (l.drop i).any p = (p (rD l i) || (l.drop (i + 1)).any p) := by
 rw [rD_drop l i h, List.any_cons]

theorem poCross_tells (a b c d : Int) : spec_poCross.f a b c d = some (crossB a b c d) := by
 unfold spec_poCross.f crossB
 repeat' split
 all_goals congr 1; rw [Bool.eq_iff_iff]; simp only [Bool.or_eq_true, decide_eq_true_eq, Bool.false_eq_true, false_iff, true_iff]; omega
theorem poLess_tells (a b c d : Int) : spec_poLess.f a b c d = some (lessB a b c d) := by
 unfold spec_poLess.f lessB
 repeat' split
 all_goals congr 1; rw [Bool.eq_iff_iff]; simp only [decide_eq_true_eq, Bool.false_eq_true, false_iff, true_iff]; omega
theorem poIs_tells (n : Int) : spec_poIs.f n = some (decide (3 ≤ n ∧ n ≤ 12)) := by
 unfold spec_poIs.f
 rw [l1In_tells]
 rfl
theorem poDiagonal_tells (n a b : Int) (h : 3 ≤ n ∧ n ≤ 12) : spec_poDiagonal.f n a b = some (diagB n a b) := by
 unfold spec_poDiagonal.f diagB
 rw [poIs_tells, l1In_tells, l1In_tells, decide_eq_true h]
 have w : wrap64 (n - 1) = n - 1 := by unfold wrap64; omega
 have w2 : wrap64 (n - 2) = n - 2 := by unfold wrap64; omega
 simp only [Option.bind_some, if_true, w, w2, decide_eq_true_eq]
 by_cases h0 : 0 ≤ a ∧ a ≤ n - 1
 ·by_cases h1 : 0 ≤ b ∧ b ≤ n - 1
  ·have w3 : wrap64 (b - a) = b - a := by unfold wrap64; omega
   rw [if_pos h0, if_pos h1, w3]
   split
   all_goals congr 1; rw [Bool.eq_iff_iff]; simp only [decide_eq_true_eq, Bool.false_eq_true, false_iff]; omega
  ·rw [if_pos h0, if_neg h1]
   congr 1; rw [Bool.eq_iff_iff]; simp only [decide_eq_true_eq, Bool.false_eq_true, false_iff]; omega
 ·rw [if_neg h0]
  congr 1; rw [Bool.eq_iff_iff]; simp only [decide_eq_true_eq, Bool.false_eq_true, false_iff]; omega

theorem isDiagonal_tells (n a b : Int) (h : 3 ≤ n ∧ n ≤ 12) : impl_isDiagonal.f n a b = some (diagB n a b) := by
 unfold impl_isDiagonal.f diagB
 rw [within_tells, within_tells]
 have w : wrap64 (n - 1) = n - 1 := by unfold wrap64; omega
 simp only [Option.bind_some, w, decide_eq_true_eq]
 by_cases h0 : 0 ≤ a ∧ a ≤ n - 1
 ·by_cases h1 : 0 ≤ b ∧ b ≤ n - 1
  ·have w3 : wrap64 (b - a) = b - a := by unfold wrap64; omega
   rw [if_pos h0, if_pos h1, w3]
   repeat' split
   all_goals congr 1; rw [Bool.eq_iff_iff]; simp only [decide_eq_true_eq, Bool.false_eq_true, false_iff, Bool.not_eq_true', beq_eq_false_iff_ne, ne_eq, Bool.not_false, true_iff]; omega
  ·rw [if_pos h0, if_neg h1]
   congr 1; rw [Bool.eq_iff_iff]; simp only [decide_eq_true_eq, Bool.false_eq_true, false_iff]; omega
 ·rw [if_neg h0]
  congr 1; rw [Bool.eq_iff_iff]; simp only [decide_eq_true_eq, Bool.false_eq_true, false_iff]; omega
def cmpI (a c : Int) : Int := if a < c then -1 else if a > c then 1 else 0
def cmpD (a b c d : Int) : Int := if a = c then cmpI b d else cmpI a c
theorem compare_tells (a c : Int) : cmp_Compare_int.f a c = some (cmpI a c) := by
 unfold cmp_Compare_int.f cmp_isNaN_int.f cmpI
 have h0 : (a != a) = false := by simp
 have h1 : (c != c) = false := by simp
 rw [h0, h1]
 simp only [Option.bind_some, Bool.false_eq_true, if_false]
 repeat' split
 all_goals rfl
theorem compareDiagonals_tells (a b c d : Int) (k : Nat) (hk : 3 ≤ k) : impl_compareDiagonals.f k a b c d = some (cmpD a b c d) := by
 obtain ⟨k, rfl⟩ : ∃ q, k = q + 3 := ⟨k - 3, by omega⟩
 unfold impl_compareDiagonals.f cmp_Or_int.f
 rw [compare_tells, compare_tells]
 simp only [Option.bind_some, List.length_cons, List.length_nil]
 have r0 : rd [cmpI a c, cmpI b d] 0 = cmpI a c := rfl
 have r1 : rd [cmpI a c, cmpI b d] 1 = cmpI b d := rfl
 have w0 : wrap64 (0 + 1) = 1 := by unfold wrap64; omega
 have w1 : wrap64 (1 + 1) = 2 := by unfold wrap64; omega
 simp only [cmp_Or_int.l0, w0, w1, r0, r1]
 unfold cmpD
 by_cases e : a = c
 ·have z : cmpI a c = 0 := by unfold cmpI; rw [if_neg (by omega), if_neg (by omega)]
  rw [if_pos e, z]
  by_cases z2 : cmpI b d = 0
  ·simp [z2]
  ·simp [z2]
 ·have z : ¬ cmpI a c = 0 := by
   unfold cmpI
   split
   ·omega
   ·split <;> omega
  rw [if_neg e]
  simp [z]
theorem cmpD_nonneg (a b c d : Int) : cmpD a b c d ≥ 0 ↔ lessB a b c d = false := by
 unfold cmpD cmpI lessB
 rw [decide_eq_false_iff_not]
 repeat' split
 all_goals omega

def A1 (n : Int) (a : Nat) (b e : Nat) : List DG := ((List.range' b e).filter fun (b : Nat) => diagB n a b).map fun (b : Nat) => ⟨(a : Int), (b : Int)⟩
def A0 (n : Int) (N : Nat) (a e : Nat) : List DG := (List.range' a e).flatMap fun (a : Nat) => A1 n a (a + 1) (N - (a + 1))
theorem A1_len (n : Int) (a b e : Nat) : (A1 n a b e).length ≤ e := by
 unfold A1
 rw [List.length_map]
 exact Nat.le_trans (List.length_filter_le ..) (by rw [List.length_range']; exact Nat.le_refl _)
theorem all_l1 (n : Int) (N : Nat) (hN : (N : Int) = n) (hn : 3 ≤ n ∧ n ≤ 12) (a : Nat) (r : Option (List DG)) (e : Nat) :
  ∀ (b : Nat) (acc : List DG) (K : Nat), b + e = N → acc.length + e ≤ 4000 → (∀ q, K ≤ q → impl_allDiagonals.l0 q n (acc ++ A1 n a b e) n (wrap64 ((a : Int) + 1)) = r) →
  ∀ q, K + e < q → impl_allDiagonals.l1 q n acc (a : Int) (b : Int) n (a : Int) = r := by
 induction e with
 | zero =>
  intro b acc K he hacc h q hq
  obtain ⟨q, rfl⟩ : ∃ z, q = z + 1 := ⟨q - 1, by omega⟩
  simp only [impl_allDiagonals.l1]
  rw [if_neg (by omega)]
  have := h q (by omega)
  simpa [A1] using this
 | succ e ih =>
  intro b acc K he hacc h q hq
  obtain ⟨q, rfl⟩ : ∃ z, q = z + 1 := ⟨q - 1, by omega⟩
  have hlt : acc.length < 8796093022208 := by omega
  have hA : A1 n a b (e + 1) = (if diagB n a b = true then [(⟨(a : Int), (b : Int)⟩ : DG)] else []) ++ A1 n a (b + 1) e := by
   unfold A1
   rw [List.range'_succ, List.filter_cons]
   split <;> rfl
  simp only [impl_allDiagonals.l1]
  rw [if_pos (by omega), isDiagonal_tells n _ _ hn, Option.bind_some, wrap_succ b (by omega)]
  cases hd : diagB n a b with
  | false =>
   rw [if_neg (by simp)]
   refine ih (b + 1) acc K (by omega) (by omega) ?_ q (by omega)
   intro q' hq'
   have := h q' hq'
   rw [hA, hd, if_neg (by simp), List.nil_append] at this
   exact this
  | true =>
   rw [if_pos rfl, if_pos hlt]
   refine ih (b + 1) _ K (by omega) (by rw [List.length_append, List.length_singleton]; omega) ?_ q (by omega)
   intro q' hq'
   have := h q' hq'
   rw [hA, hd] at this
   simpa using this
theorem all_l0 (n : Int) (N : Nat) (hN : (N : Int) = n) (hn : 3 ≤ n ∧ n ≤ 12) (e : Nat) :
  ∀ (a : Nat) (acc : List DG), a + e = N → acc.length + 12 * e ≤ 3000 → ∀ q, 20 * e < q → impl_allDiagonals.l0 q n acc n (a : Int) = some (acc ++ A0 n N a e) := by
 induction e with
 | zero =>
  intro a acc he hacc q hq
  obtain ⟨q, rfl⟩ : ∃ z, q = z + 1 := ⟨q - 1, by omega⟩
  simp only [impl_allDiagonals.l0]
  rw [if_neg (by omega)]
  have e0 : A0 n N a 0 = [] := rfl
  rw [e0, List.append_nil]
 | succ e ih =>
  intro a acc he hacc q hq
  obtain ⟨q, rfl⟩ : ∃ z, q = z + 1 := ⟨q - 1, by omega⟩
  have hA : A0 n N a (e + 1) = A1 n a (a + 1) (N - (a + 1)) ++ A0 n N (a + 1) e := by
   unfold A0
   rw [List.range'_succ, List.flatMap_cons]
  have hlen := A1_len n a (a + 1) (N - (a + 1))
  rw [hA, ← List.append_assoc]
  simp only [impl_allDiagonals.l0]
  rw [if_pos (by omega), wrap_succ a (by omega)]
  refine all_l1 n N hN hn a _ (N - (a + 1)) (a + 1) acc (20 * e + 1) (by omega) (by omega) ?_ q (by omega)
  intro q' hq'
  rw [wrap_succ a (by omega)]
  exact ih (a + 1) _ (by omega) (by rw [List.length_append]; omega) q' (by omega)
theorem allDiagonals_tells (n : Int) (hn : 3 ≤ n ∧ n ≤ 12) (k : Nat) (hk : 300 < k) : impl_allDiagonals.f k n = some (A0 n n.toNat 0 n.toNat) := by
 have h := all_l0 n n.toNat (by omega) hn n.toNat 0 [] (by omega) (by simp; omega) k (by omega)
 rw [show ((0 : Nat) : Int) = 0 from rfl, List.nil_append] at h
 exact h

theorem lookL_mem (m : Int) : ∀ (r b : List DG), ∀ x ∈ lookL m r b, (x.length : Int) = m
 | [], _ => fun x hx => by cases hx
 | d :: r, b => fun x hx => by
  rw [lookL_cons] at hx
  rcases List.mem_append.1 hx with h | h
  ·split at h
   ·cases h
   ·unfold lookT at h
    split at h
    ·rw [List.mem_singleton.1 h]
     assumption
    ·exact lookL_mem m r _ x h
  ·exact lookL_mem m r b x h
theorem tris_len (n : Int) : ∀ x ∈ trisOf n, (x.length : Int) = n - 3 := by
 intro x hx
 unfold trisOf lookT at hx
 split at hx
 ·rename_i h
  rw [List.mem_singleton.1 hx]
  exact h
 ·exact lookL_mem _ _ _ x hx
theorem poAll_tells (n : Int) (hn : 3 ≤ n ∧ n ≤ 8) : spec_poAll.f n = some (trisOf n) := by
 unfold spec_poAll.f
 rw [if_pos hn]
theorem A0_diags (n : Int) (hn : 3 ≤ n ∧ n ≤ 8) : A0 n n.toNat 0 n.toNat = diagsOf n := by
 have : n = 3 ∨ n = 4 ∨ n = 5 ∨ n = 6 ∨ n = 7 ∨ n = 8 := by omega
 rcases this with rfl | rfl | rfl | rfl | rfl | rfl <;> rfl
theorem allTri_tells (n : Int) (hn : 3 ≤ n ∧ n ≤ 8) (k : Nat) (hk : 300 < k) : impl_allTriangulations.f k n = some (trisOf n) := by
 unfold impl_allTriangulations.f
 rw [allDiagonals_tells n (by omega) k hk, Option.bind_some, A0_diags n hn, if_pos ⟨hn.1, hn.2, diagsOf_le n hn⟩]
 rfl
theorem tris_small (n : Int) (hn : 3 ≤ n ∧ n ≤ 8) : (trisOf n).length ≤ 1048576 := trisOf_le n hn

def isTriB (n : Int) (l : List DG) : Bool := decide (3 ≤ n ∧ n ≤ 12) && (decide ((l.length : Int) = n - 3) && goodD n l)

theorem cnt_split {α : Type} (p q r : α → Bool) : ∀ l : List α, (∀ x ∈ l, p x = true → q x = true ∨ r x = true) → l.countP p ≤ l.countP q + l.countP r
 | [], _ => by simp
 | x :: l, h => by
  have ih := cnt_split p q r l (fun y hy => h y (List.mem_cons_of_mem _ hy))
  have hx := h x (List.mem_cons_self ..)
  simp only [List.countP_cons]
  cases hp : p x <;> cases hq : q x <;> cases hr : r x <;> simp_all <;> omega
theorem cnt_zero {α : Type} (p : α → Bool) (l : List α) (h : ∀ x ∈ l, p x = false) : l.countP p = 0 := by
 rw [List.countP_eq_zero]
 intro x hx
 simp [h x hx]
theorem last_of (P : Int → Prop) : ∀ (m : Nat) (lo hi : Int), hi - lo ≤ m → lo < hi → P lo → ∃ c, lo ≤ c ∧ c < hi ∧ P c ∧ ∀ c', c < c' → c' < hi → ¬ P c'
 | 0, lo, hi, h, h2, _ => by omega
 | m + 1, lo, hi, h, h2, hP => by
  by_cases hx : ∃ c, lo < c ∧ c < hi ∧ P c
  ·obtain ⟨c, h3, h4, h5⟩ := hx
   obtain ⟨e, h6, h7, h8, h9⟩ := last_of P m c hi (by omega) h4 h5
   exact ⟨e, by omega, h7, h8, h9⟩
  ·exact ⟨lo, by omega, h2, hP, fun c' h3 h4 h5 => hx ⟨c', h3, h4, h5⟩⟩

def hasD (l : List DG) (a b : Int) : Bool := l.any fun d => d.f0 == a && d.f1 == b
theorem hasD_of {l : List DG} {d : DG} (h : d ∈ l) : hasD l d.f0 d.f1 = true := List.any_eq_true.2 ⟨d, h, by simp⟩
theorem hasD_mem {l : List DG} {a b : Int} (h : hasD l a b = true) : ∃ d ∈ l, d.f0 = a ∧ d.f1 = b := by
 obtain ⟨d, h1, h2⟩ := List.any_eq_true.1 h
 simp only [Bool.and_eq_true, beq_iff_eq] at h2
 exact ⟨d, h1, h2⟩
def under (l : List DG) (i j : Int) : Nat := l.countP fun d => decide (i ≤ d.f0 ∧ d.f1 ≤ j)
def inner (l : List DG) (i j : Int) : Nat := l.countP fun d => decide (i ≤ d.f0 ∧ d.f1 ≤ j ∧ ¬ (d.f0 = i ∧ d.f1 = j))

structure Tri (n : Int) (l : List DG) : Prop where
 n3 : 3 ≤ n ∧ n ≤ 12
 len : (l.length : Int) = n - 3
 ok : ∀ d ∈ l, 0 ≤ d.f0 ∧ d.f1 ≤ n - 1 ∧ 2 ≤ d.f1 - d.f0 ∧ d.f1 - d.f0 ≤ n - 2
 nc : ∀ d ∈ l, ∀ e ∈ l, ¬ (d.f0 < e.f0 ∧ e.f0 < d.f1 ∧ d.f1 < e.f1)
 sorted : l.Pairwise fun d e => d.f0 < e.f0 ∨ (d.f0 = e.f0 ∧ d.f1 < e.f1)

theorem cnt_one (a b : Int) : ∀ l : List DG, (l.Pairwise fun d e => d.f0 < e.f0 ∨ (d.f0 = e.f0 ∧ d.f1 < e.f1)) → l.countP (fun d => decide (d.f0 = a ∧ d.f1 = b)) ≤ if hasD l a b = true then 1 else 0
 | [], _ => by simp
 | x :: l, h => by
  obtain ⟨h1, h2⟩ := List.pairwise_cons.1 h
  have ih := cnt_one a b l h2
  simp only [List.countP_cons]
  by_cases hx : x.f0 = a ∧ x.f1 = b
  ·have hz : l.countP (fun d => decide (d.f0 = a ∧ d.f1 = b)) = 0 := by
    apply cnt_zero
    intro y hy
    have := h1 y hy
    rw [decide_eq_false_iff_not]
    omega
   have hh : hasD (x :: l) a b = true := by
    rw [← hx.1, ← hx.2]
    exact hasD_of (List.mem_cons_self ..)
   rw [hz, if_pos hh]
   simp [hx]
  ·have hh : hasD (x :: l) a b = hasD l a b := by
    unfold hasD
    rw [List.any_cons]
    have : (x.f0 == a && x.f1 == b) = false := by
     rw [Bool.eq_false_iff]
     simpa using hx
    rw [this, Bool.false_or]
   rw [hh]
   simp only [hx, decide_false, Bool.false_eq_true, if_false]
   exact ih

theorem Tri.under_inner {n : Int} {l : List DG} (T : Tri n l) (i j : Int) : under l i j ≤ inner l i j + if hasD l i j = true then 1 else 0 := by
 have h1 := cnt_split (fun d : DG => decide (i ≤ d.f0 ∧ d.f1 ≤ j)) (fun d : DG => decide (i ≤ d.f0 ∧ d.f1 ≤ j ∧ ¬ (d.f0 = i ∧ d.f1 = j))) (fun d : DG => decide (d.f0 = i ∧ d.f1 = j)) l (fun x _ h => by
  simp only [decide_eq_true_eq] at h ⊢
  omega)
 have h2 := cnt_one i j l T.sorted
 unfold under inner
 omega

theorem Tri.half {n : Int} {l : List DG} (T : Tri n l) (a b : Int) (h1 : 1 ≤ b - a) (ih : 2 ≤ b - a → (inner l a b : Int) ≤ b - a - 2) :
  (under l a b : Int) ≤ b - a - 1 ∧ ((under l a b : Int) = b - a - 1 → b - a = 1 ∨ (hasD l a b = true ∧ 2 ≤ b - a ∧ (inner l a b : Int) = b - a - 2)) := by
 by_cases h2 : 2 ≤ b - a
 ·have h3 := ih h2
  have h4 := T.under_inner a b
  cases hh : hasD l a b
  ·rw [hh, if_neg (by simp)] at h4
   exact ⟨by omega, fun _ => by omega⟩
  ·rw [hh, if_pos rfl] at h4
   exact ⟨by omega, fun _ => .inr ⟨rfl, h2, by omega⟩⟩
 ·have hz : under l a b = 0 := by
   apply cnt_zero
   intro d hd
   have := T.ok d hd
   rw [decide_eq_false_iff_not]
   omega
  rw [hz]
  exact ⟨by omega, fun _ => .inl (by omega)⟩

theorem Tri.split {n : Int} {l : List DG} (T : Tri n l) (i j : Int) (h : 2 ≤ j - i) :
  ∃ c, i < c ∧ c < j ∧ ∀ d ∈ l, i ≤ d.f0 → d.f1 ≤ j → ¬ (d.f0 = i ∧ d.f1 = j) → d.f1 ≤ c ∨ c ≤ d.f0 := by
 obtain ⟨c, h1, h2, h3, h4⟩ := last_of (fun c => c = i + 1 ∨ hasD l i c = true) (j - (i + 1)).toNat (i + 1) j (by omega) (by omega) (.inl rfl)
 refine ⟨c, by omega, h2, fun d hd h5 h6 h7 => ?_⟩
 by_cases h8 : d.f1 ≤ c
 ·exact .inl h8
 ·by_cases h9 : c ≤ d.f0
  ·exact .inr h9
  ·exfalso
   by_cases e : d.f0 = i
   ·refine h4 d.f1 (by omega) (by omega) (.inr ?_)
    rw [← e]
    exact hasD_of hd
   ·rcases h3 with h3 | h3
    ·omega
    ·obtain ⟨x, hx, hx1, hx2⟩ := hasD_mem h3
     exact T.nc x hx d hd (by omega)

theorem inner_le (l : List DG) (i j c : Int) (h : ∀ d ∈ l, i ≤ d.f0 → d.f1 ≤ j → ¬ (d.f0 = i ∧ d.f1 = j) → d.f1 ≤ c ∨ c ≤ d.f0) : inner l i j ≤ under l i c + under l c j := by
 apply cnt_split
 intro d hd h1
 have h2 := h d hd
 simp only [decide_eq_true_eq] at h1 ⊢
 have h3 := h2 h1.1 h1.2.1 h1.2.2
 omega

theorem Tri.bound {n : Int} {l : List DG} (T : Tri n l) : ∀ (m : Nat) (i j : Int), j - i ≤ m → 2 ≤ j - i → (inner l i j : Int) ≤ j - i - 2
 | 0, i, j, h, h2 => by omega
 | m + 1, i, j, h, h2 => by
  obtain ⟨c, h3, h4, h5⟩ := T.split i j h2
  have h6 := inner_le l i j c h5
  have h7 := (T.half i c (by omega) (fun h => T.bound m i c (by omega) h)).1
  have h8 := (T.half c j (by omega) (fun h => T.bound m c j (by omega) h)).1
  omega

def Full (l : List DG) (i j : Int) : Prop := 2 ≤ j - i ∧ (inner l i j : Int) = j - i - 2

theorem Tri.apex {n : Int} {l : List DG} (T : Tri n l) (i j : Int) (hf : Full l i j) :
  ∃ c, i < c ∧ c < j ∧ (c - i = 1 ∨ (hasD l i c = true ∧ Full l i c)) ∧ (j - c = 1 ∨ (hasD l c j = true ∧ Full l c j)) ∧
   ∀ d ∈ l, i ≤ d.f0 → d.f1 ≤ j → ¬ (d.f0 = i ∧ d.f1 = j) → d.f1 ≤ c ∨ c ≤ d.f0 := by
 obtain ⟨h2, hf⟩ := hf
 obtain ⟨c, h3, h4, h5⟩ := T.split i j h2
 have h6 := inner_le l i j c h5
 obtain ⟨h7, g7⟩ := T.half i c (by omega) (fun h => T.bound (c - i).toNat i c (by omega) h)
 obtain ⟨h8, g8⟩ := T.half c j (by omega) (fun h => T.bound (j - c).toNat c j (by omega) h)
 exact ⟨c, h3, h4, g7 (by omega), g8 (by omega), h5⟩

/-- Two corners are joined: by a side or by a diagonal. -/
def J (n : Int) (l : List DG) (a b : Int) : Prop := b = a + 1 ∨ (a = 0 ∧ b = n - 1) ∨ hasD l a b = true

theorem J.of {n : Int} {l : List DG} {a b : Int} {P : Prop} (h : b - a = 1 ∨ (hasD l a b = true ∧ P)) : J n l a b := by
 rcases h with h | h
 ·exact .inl (by omega)
 ·exact .inr (.inr h.1)

theorem Tri.reach {n : Int} {l : List DG} (T : Tri n l) : ∀ (m : Nat) (i j : Int), j - i ≤ m → Full l i j → 0 ≤ i → j ≤ n - 1 → J n l i j → ∀ d ∈ l, i ≤ d.f0 → d.f1 ≤ j → ¬ (d.f0 = i ∧ d.f1 = j) →
  (∃ c, d.f0 < c ∧ c < d.f1 ∧ J n l d.f0 c ∧ J n l c d.f1) ∧ ∃ o, 0 ≤ o ∧ o ≤ n - 1 ∧ ((o < d.f0 ∧ J n l o d.f0 ∧ J n l o d.f1) ∨ (d.f1 < o ∧ J n l d.f0 o ∧ J n l d.f1 o))
 | 0, i, j, h, hf, _, _, _, d, _, _, _, _ => by have := hf.1; omega
 | m + 1, i, j, h, hf, hi, hj, hJ, d, hd, h1, h2, h3 => by
  obtain ⟨c, c1, c2, c3, c4, c5⟩ := T.apex i j hf
  have hok := T.ok d hd
  rcases c5 d hd h1 h2 h3 with h4 | h4
  ·rcases c3 with c3 | ⟨c3, f3⟩
   ·omega
   ·by_cases e : d.f0 = i ∧ d.f1 = c
    ·obtain ⟨e1, e2⟩ := e
     obtain ⟨x, x1, x2, x3, x4, _⟩ := T.apex i c f3
     rw [e1, e2]
     exact ⟨⟨x, x1, x2, J.of x3, J.of x4⟩, j, by omega, hj, .inr ⟨by omega, hJ, J.of c4⟩⟩
    ·exact T.reach m i c (by omega) f3 hi (by omega) (.inr (.inr c3)) d hd h1 h4 e
  ·rcases c4 with c4 | ⟨c4, f4⟩
   ·omega
   ·by_cases e : d.f0 = c ∧ d.f1 = j
    ·obtain ⟨e1, e2⟩ := e
     obtain ⟨x, x1, x2, x3, x4, _⟩ := T.apex c j f4
     rw [e1, e2]
     exact ⟨⟨x, x1, x2, J.of x3, J.of x4⟩, i, by omega, by omega, .inl ⟨by omega, J.of c3, hJ⟩⟩
    ·exact T.reach m c j (by omega) f4 (by omega) hj (.inr (.inr c4)) d hd h4 h2 e

theorem Tri.jcross {n : Int} {l : List DG} (T : Tri n l) {a b c d : Int} (h1 : J n l a b) (h2 : J n l c d) (ha : 0 ≤ a) (hd : d ≤ n - 1) : ¬ (a < c ∧ c < b ∧ b < d) := by
 intro h
 rcases h1 with h1 | h1 | h1
 ·omega
 ·omega
 ·rcases h2 with h2 | h2 | h2
  ·omega
  ·omega
  ·obtain ⟨x, hx, x1, x2⟩ := hasD_mem h1
   obtain ⟨y, hy, y1, y2⟩ := hasD_mem h2
   exact T.nc x hx y hy (by omega)

/-- The two corners with which the ends of a diagonal are joined: one inside, one outside, and no other. -/
theorem Tri.two {n : Int} {l : List DG} (T : Tri n l) (d : DG) (hd : d ∈ l) : ∃ x o, d.f0 < x ∧ x < d.f1 ∧ 0 ≤ o ∧ o ≤ n - 1 ∧ (o < d.f0 ∨ d.f1 < o) ∧
  (J n l d.f0 x ∧ J n l x d.f1) ∧ (J n l (min o d.f0) (max o d.f0) ∧ J n l (min o d.f1) (max o d.f1)) ∧
  ∀ c, 0 ≤ c → c ≤ n - 1 → c ≠ d.f0 → c ≠ d.f1 → (J n l (min c d.f0) (max c d.f0) ∧ J n l (min c d.f1) (max c d.f1)) → c = x ∨ c = o := by
 have hok := T.ok d hd
 have hn := T.n3
 have hfull : Full l 0 (n - 1) := by
  refine ⟨by omega, ?_⟩
  have : inner l 0 (n - 1) = l.length := by
   unfold inner
   rw [List.countP_eq_length]
   intro e he
   have := T.ok e he
   rw [decide_eq_true_eq]
   omega
  rw [this, T.len]
  omega
 obtain ⟨⟨x, x1, x2, x3, x4⟩, o, o1, o2, o3⟩ := T.reach (n - 1).toNat 0 (n - 1) (by omega) hfull (by omega) (by omega) (.inr (.inl ⟨rfl, rfl⟩)) d hd (by omega) (by omega) (by omega)
 refine ⟨x, o, x1, x2, o1, o2, by omega, ⟨x3, x4⟩, ?_, ?_⟩
 ·rcases o3 with ⟨h, h5, h6⟩ | ⟨h, h5, h6⟩
  ·rw [Int.min_eq_left (by omega), Int.max_eq_right (by omega), Int.min_eq_left (by omega), Int.max_eq_right (by omega)]
   exact ⟨h5, h6⟩
  ·rw [Int.min_eq_right (by omega), Int.max_eq_left (by omega), Int.min_eq_right (by omega), Int.max_eq_left (by omega)]
   exact ⟨h5, h6⟩
 ·intro c c1 c2 c3 c4 ⟨j1, j2⟩
  by_cases hx : c = x
  ·exact .inl hx
  ·by_cases ho : c = o
   ·exact .inr ho
   ·exfalso
    by_cases hin : d.f0 < c ∧ c < d.f1
    ·rw [Int.min_eq_right (by omega), Int.max_eq_left (by omega)] at j1
     rw [Int.min_eq_left (by omega), Int.max_eq_right (by omega)] at j2
     by_cases hlt : c < x
     ·exact T.jcross x3 j2 (by omega) (by omega) (by omega)
     ·exact T.jcross j1 x4 (by omega) (by omega) (by omega)
    ·rcases o3 with ⟨h, h5, h6⟩ | ⟨h, h5, h6⟩
     ·by_cases hc : c < d.f0
      ·rw [Int.min_eq_left (by omega), Int.max_eq_right (by omega)] at j1
       rw [Int.min_eq_left (by omega), Int.max_eq_right (by omega)] at j2
       by_cases hlt : c < o
       ·exact T.jcross j1 h6 (by omega) (by omega) (by omega)
       ·exact T.jcross h5 j2 (by omega) (by omega) (by omega)
      ·rw [Int.min_eq_right (by omega), Int.max_eq_left (by omega)] at j1
       exact T.jcross h6 j1 (by omega) (by omega) (by omega)
     ·by_cases hc : c < d.f0
      ·rw [Int.min_eq_left (by omega), Int.max_eq_right (by omega)] at j2
       exact T.jcross j2 h5 (by omega) (by omega) (by omega)
      ·rw [Int.min_eq_right (by omega), Int.max_eq_left (by omega)] at j1
       rw [Int.min_eq_right (by omega), Int.max_eq_left (by omega)] at j2
       by_cases hlt : c < o
       ·exact T.jcross j1 h6 (by omega) (by omega) (by omega)
       ·exact T.jcross h5 j2 (by omega) (by omega) (by omega)

theorem pair_chain (l : List DG) (h : ∀ j, 0 < j → j < l.length → (rD l (j - 1)).f0 < (rD l j).f0 ∨ ((rD l (j - 1)).f0 = (rD l j).f0 ∧ (rD l (j - 1)).f1 < (rD l j).f1)) : l.Pairwise fun d e => d.f0 < e.f0 ∨ (d.f0 = e.f0 ∧ d.f1 < e.f1) := by
 induction l with
 | nil => exact List.Pairwise.nil
 | cons x l ih =>
  have h' := ih (fun j j1 j2 => by
   have := h (j + 1) (by omega) (by simpa using j2)
   rw [show j + 1 - 1 = (j - 1) + 1 by omega] at this
   simpa [rD, rd_T52] using this)
  refine List.pairwise_cons.2 ⟨?_, h'⟩
  intro y hy
  cases l with
  | nil => cases hy
  | cons z l =>
   have h0 := h 1 (by omega) (by simp)
   have h1 : x.f0 < z.f0 ∨ (x.f0 = z.f0 ∧ x.f1 < z.f1) := by simpa [rD, rd_T52] using h0
   rcases List.mem_cons.1 hy with e | e
   ·rw [e]
    exact h1
   ·have := (List.pairwise_cons.1 h').1 y e
    omega

theorem rD_get (l : List DG) (j : Nat) (h : j < l.length) : rD l j = l[j] := by
 unfold rD rd_T52
 rw [Int.toNat_natCast, List.getD_eq_getElem?_getD, List.getElem?_eq_getElem h]
 rfl

theorem tri_of (n : Int) (l : List DG) (h : isTriB n l = true) : Tri n l := by
 unfold isTriB goodD at h
 simp only [Bool.and_eq_true, decide_eq_true_eq, List.all_eq_true] at h
 obtain ⟨hn, hl, hs⟩ := h
 have hst : ∀ j, j < l.length → stepD n l j = true := fun j hj => hs j (List.mem_range'_1.2 ⟨by omega, by omega⟩)
 have hok : ∀ d ∈ l, 0 ≤ d.f0 ∧ d.f1 ≤ n - 1 ∧ 2 ≤ d.f1 - d.f0 ∧ d.f1 - d.f0 ≤ n - 2 := by
  intro d hd
  obtain ⟨j, hj, e⟩ := List.getElem_of_mem hd
  have h1 := hst j hj
  rw [stepD_def, rD_get l j hj, e] at h1
  simp only [Bool.and_eq_true, diagB, decide_eq_true_eq] at h1
  omega
 have hnc : ∀ (j : Nat) (hj : j < l.length) (i : Nat) (hi : i < j), crossB l[j].f0 l[j].f1 l[i].f0 l[i].f1 = false := by
  intro j hj i hi
  have h1 := hst j hj
  rw [stepD_def, rD_get l j hj] at h1
  simp only [Bool.and_eq_true, Bool.not_eq_true'] at h1
  have h2 := List.any_eq_false.1 h1.2.2 l[i] (by
   rw [List.mem_take_iff_getElem]
   exact ⟨i, by omega, rfl⟩)
  simpa using h2
 refine ⟨hn, hl, hok, ?_, pair_chain l ?_⟩
 ·intro d hd e he hx
  obtain ⟨i, hi, e1⟩ := List.getElem_of_mem hd
  obtain ⟨j, hj, e2⟩ := List.getElem_of_mem he
  subst e1 e2
  rcases Nat.lt_trichotomy i j with h1 | h1 | h1
  ·have := hnc j hj i h1
   simp only [crossB, Bool.or_eq_false_iff, decide_eq_false_iff_not] at this
   omega
  ·subst h1
   omega
  ·have := hnc i hi j h1
   simp only [crossB, Bool.or_eq_false_iff, decide_eq_false_iff_not] at this
   omega
 ·intro j j1 j2
  have h1 := hst j j2
  rw [stepD_def] at h1
  have b0 : (j == 0) = false := by rw [beq_eq_false_iff_ne]; omega
  rw [b0] at h1
  simp only [Bool.and_eq_true, Bool.false_or, lessB, decide_eq_true_eq] at h1
  exact h1.2.1

def NC (b s : List DG) : Prop := s.Pairwise (fun d e => crossP e d = false) ∧ ∀ d ∈ s, ∀ e ∈ b, crossP d e = false
theorem any_false {d : DG} {b : List DG} (h : ∀ e ∈ b, crossP d e = false) : b.any (crossP d) = false := by
 rw [List.any_eq_false]
 intro e he
 rw [h e he]
 simp
theorem lookL_full (m : Int) {r s : List DG} (hs : s.Sublist r) : ∀ b : List DG, NC b s → (b.length : Int) < m → ((b ++ s).length : Int) = m → b ++ s ∈ lookL m r b := by
 induction hs with
 | slnil =>
  intro b _ h1 h2
  rw [List.append_nil] at h2
  omega
 | cons d _ ih =>
  intro b hn h1 h2
  rw [lookL_cons]
  exact List.mem_append_right _ (ih b hn h1 h2)
 | @cons_cons s r d _ ih =>
  intro b hn h1 h2
  rw [lookL_cons]
  refine List.mem_append_left _ ?_
  obtain ⟨p1, p2⟩ := hn
  obtain ⟨q1, q2⟩ := List.pairwise_cons.1 p1
  rw [any_false (p2 d (List.mem_cons_self ..)), if_neg (by simp)]
  have e : b ++ d :: s = (b ++ [d]) ++ s := by simp
  rw [e] at h2 ⊢
  unfold lookT
  by_cases hl : ((b ++ [d]).length : Int) = m
  ·have : s = [] := by
    rw [List.length_append] at h2
    exact List.length_eq_zero_iff.1 (by omega)
   rw [if_pos hl, this, List.append_nil]
   exact List.mem_singleton.2 rfl
  ·rw [if_neg hl]
   refine ih (b ++ [d]) ⟨q2, fun x hx y hy => ?_⟩ ?_ h2
   ·rcases List.mem_append.1 hy with hy | hy
    ·exact p2 x (List.mem_cons_of_mem _ hx) y hy
    ·rw [List.mem_singleton.1 hy]
     exact q1 x hx
   ·rw [List.length_append, List.length_singleton] at hl ⊢
    omega
theorem lookL_only (m : Int) : ∀ (r b : List DG), ∀ x ∈ lookL m r b, ∃ s, s.Sublist r ∧ NC b s ∧ x = b ++ s
 | [], _ => fun x hx => by cases hx
 | d :: r, b => fun x hx => by
  rw [lookL_cons] at hx
  rcases List.mem_append.1 hx with h | h
  ·by_cases ha : b.any (crossP d) = true
   ·rw [if_pos ha] at h
    cases h
   ·rw [if_neg ha] at h
    have hb : ∀ e ∈ b, crossP d e = false := by
     intro e he
     cases hc : crossP d e with
     | false => rfl
     | true => exact absurd (List.any_eq_true.2 ⟨e, he, hc⟩) ha
    unfold lookT at h
    split at h
    ·rw [List.mem_singleton.1 h]
     refine ⟨[d], (List.nil_sublist r).cons_cons d, ⟨List.pairwise_singleton _ _, fun x hx => ?_⟩, rfl⟩
     rw [List.mem_singleton.1 hx]
     exact hb
    ·obtain ⟨s, h1, ⟨h2, h3⟩, h4⟩ := lookL_only m r _ x h
     refine ⟨d :: s, h1.cons_cons d, ⟨List.pairwise_cons.2 ⟨fun y hy => h3 y hy d (by simp), h2⟩, fun y hy => ?_⟩, by rw [h4]; simp⟩
     rcases List.mem_cons.1 hy with e | e
     ·rw [e]
      exact hb
     ·exact fun z hz => h3 y e z (List.mem_append_left _ hz)
  ·obtain ⟨s, h1, h2, h3⟩ := lookL_only m r b x h
   exact ⟨s, h1.cons d, h2, h3⟩
def ltd (x y : DG) : Prop := x.f0 < y.f0 ∨ (x.f0 = y.f0 ∧ x.f1 < y.f1)
instance (x y : DG) : Decidable (ltd x y) := by unfold ltd; exact inferInstance
theorem sub_of_sorted : ∀ (D s : List DG), D.Pairwise ltd → s.Pairwise ltd → (∀ x ∈ s, x ∈ D) → s.Sublist D
 | [], s, _, _, h => by
  cases s with
  | nil => exact List.Sublist.slnil
  | cons x s => exact absurd (h x (List.mem_cons_self ..)) (by simp)
 | y :: D, [], _, _, _ => List.nil_sublist _
 | y :: D, x :: s, hD, hs, h => by
  obtain ⟨d1, d2⟩ := List.pairwise_cons.1 hD
  obtain ⟨s1, s2⟩ := List.pairwise_cons.1 hs
  have irr : ∀ z : DG, ¬ ltd z z := fun z hz => by unfold ltd at hz; omega
  have asy : ∀ z u : DG, ltd z u → ¬ ltd u z := fun z u h1 h2 => by unfold ltd at h1 h2; omega
  have tr : ∀ z u v : DG, ltd z u → ltd u v → ltd z v := fun z u v h1 h2 => by unfold ltd at *; omega
  rcases List.mem_cons.1 (h x (List.mem_cons_self ..)) with e | e
  ·rw [e]
   refine (sub_of_sorted D s d2 s2 (fun z hz => ?_)).cons_cons y
   rcases List.mem_cons.1 (h z (List.mem_cons_of_mem _ hz)) with e2 | e2
   ·have h3 := s1 z hz
    rw [e, e2] at h3
    exact absurd h3 (irr y)
   ·exact e2
  ·have hy := d1 x e
   refine (sub_of_sorted D (x :: s) d2 hs (fun z hz => ?_)).cons y
   rcases List.mem_cons.1 (h z hz) with e2 | e2
   ·rcases List.mem_cons.1 hz with e3 | e3
    ·exact absurd (by have h9 := hy; rw [← e3, e2] at h9; exact h9) (irr y)
    ·have h3 := s1 z e3
     rw [e2] at h3
     exact absurd h3 (asy _ _ hy)
   ·exact e2
theorem diags_mem (n : Int) (hn : 3 ≤ n ∧ n ≤ 8) (d : DG) : d ∈ diagsOf n ↔ (0 ≤ d.f0 ∧ d.f1 ≤ n - 1 ∧ 2 ≤ d.f1 - d.f0 ∧ d.f1 - d.f0 ≤ n - 2) := by
 obtain ⟨a, b⟩ := d
 unfold diagsOf paRows paRow pdB
 simp only [List.mem_flatMap, List.mem_map, List.mem_filter, List.mem_range'_1, decide_eq_true_eq]
 constructor
 ·rintro ⟨x, ⟨h1, h2⟩, y, ⟨⟨h3, h4⟩, h5⟩, h6⟩
  injection h6 with h6 h7
  omega
 ·rintro ⟨h1, h2, h3, h4⟩
  refine ⟨a.toNat, ⟨by omega, by omega⟩, b.toNat, ⟨⟨by omega, by omega⟩, by omega⟩, ?_⟩
  rw [Int.toNat_of_nonneg (by omega), Int.toNat_of_nonneg (by omega)]
theorem diags_sorted (n : Int) (hn : 3 ≤ n ∧ n ≤ 8) : (diagsOf n).Pairwise ltd := by
 have : n = 3 ∨ n = 4 ∨ n = 5 ∨ n = 6 ∨ n = 7 ∨ n = 8 := by omega
 rcases this with rfl | rfl | rfl | rfl | rfl | rfl <;> decide
theorem crossP_of (d e : DG) (h : crossP d e = false) : ¬ (d.f0 < e.f0 ∧ e.f0 < d.f1 ∧ d.f1 < e.f1) ∧ ¬ (e.f0 < d.f0 ∧ d.f0 < e.f1 ∧ e.f1 < d.f1) := by
 unfold crossP at h
 rw [Bool.or_eq_false_iff, decide_eq_false_iff_not, decide_eq_false_iff_not] at h
 exact h
theorem crossP_no {d e : DG} (h1 : ¬ (d.f0 < e.f0 ∧ e.f0 < d.f1 ∧ d.f1 < e.f1)) (h2 : ¬ (e.f0 < d.f0 ∧ d.f0 < e.f1 ∧ e.f1 < d.f1)) : crossP d e = false := by
 unfold crossP
 rw [Bool.or_eq_false_iff, decide_eq_false_iff_not, decide_eq_false_iff_not]
 exact ⟨h1, h2⟩
theorem tris_only (n : Int) (hn : 3 ≤ n ∧ n ≤ 8) (x : List DG) (hx : x ∈ trisOf n) : Tri n x := by
 have hlen := tris_len n x hx
 have hs : ∃ s, s.Sublist (diagsOf n) ∧ NC [] s ∧ x = s := by
  unfold trisOf lookT at hx
  split at hx
  ·exact ⟨[], List.nil_sublist _, ⟨List.Pairwise.nil, fun d hd => by cases hd⟩, List.mem_singleton.1 hx⟩
  ·exact lookL_only _ _ _ x hx
 obtain ⟨s, h1, ⟨h2, _⟩, rfl⟩ := hs
 refine ⟨by omega, hlen, fun d hd => (diags_mem n hn d).1 (h1.subset hd), ?_, (diags_sorted n hn).sublist h1⟩
 have key : ∀ (l : List DG), l.Pairwise (fun d e => crossP e d = false) → ∀ d ∈ l, ∀ e ∈ l, ¬ (d.f0 < e.f0 ∧ e.f0 < d.f1 ∧ d.f1 < e.f1) := by
  intro l
  induction l with
  | nil => intro _ d hd; cases hd
  | cons y l ih =>
   intro hp d hd e he
   obtain ⟨p1, p2⟩ := List.pairwise_cons.1 hp
   rcases List.mem_cons.1 hd with hd2 | hd2
   ·rcases List.mem_cons.1 he with he2 | he2
    ·rw [hd2, he2]
     omega
    ·rw [hd2]
     exact (crossP_of _ _ (p1 e he2)).2
   ·rcases List.mem_cons.1 he with he2 | he2
    ·rw [he2]
     exact (crossP_of _ _ (p1 d hd2)).1
    ·exact ih p2 d hd2 e he2
 exact key _ h2
theorem tris_full (n : Int) (hn : 3 ≤ n ∧ n ≤ 8) (x : List DG) (T : Tri n x) : x ∈ trisOf n := by
 have hsub : x.Sublist (diagsOf n) := sub_of_sorted _ _ (diags_sorted n hn) T.sorted (fun d hd => (diags_mem n hn d).2 (T.ok d hd))
 have hnc : NC [] x := by
  refine ⟨?_, fun d _ e he => by cases he⟩
  refine List.Pairwise.imp_of_mem (R := fun _ _ => True) ?_ (List.pairwise_of_forall (fun _ _ => trivial))
  intro d e hd he _
  exact crossP_no (T.nc e he d hd) (T.nc d hd e he)
 have hl := T.len
 unfold trisOf lookT
 by_cases h : (([] : List DG).length : Int) = n - 3
 ·rw [if_pos h]
  have : x = [] := List.length_eq_zero_iff.1 (by simp at h; omega)
  rw [this]
  exact List.mem_singleton.2 rfl
 ·rw [if_neg h]
  exact lookL_full (n - 3) hsub [] hnc (by simp at h ⊢; omega) (by simpa using hl)

def eqL : List DG → List DG → Bool
 | [], [] => true
 | x :: l, y :: m => (x.f0 == y.f0 && x.f1 == y.f1) && eqL l m
 | _, _ => false
theorem eqL_iff : ∀ (l m : List DG), eqL l m = true ↔ l = m
 | [], [] => by simp [eqL]
 | [], y :: m => by simp [eqL]
 | x :: l, [] => by simp [eqL]
 | x :: l, y :: m => by
  obtain ⟨a, b⟩ := x
  obtain ⟨c, d⟩ := y
  rw [eqL, Bool.and_eq_true, Bool.and_eq_true, eqL_iff l m, beq_iff_eq, beq_iff_eq]
  simp
theorem eqL_len : ∀ (l m : List DG), eqL l m = true → l.length = m.length := fun l m h => by rw [(eqL_iff l m).1 h]
theorem sameis_rounds (l m : List DG) (hlm : l.length = m.length) (hl : l.length ≤ 1048576) (e : Nat) : ∀ (i : Nat), i + e = l.length → ∀ k, e < k → spec_poSame.l0 k l m (l.length : Int) (i : Int) = some (eqL (l.drop i) (m.drop i)) := by
 induction e with
 | zero =>
  intro i hi k hk
  obtain ⟨k, rfl⟩ : ∃ q, k = q + 1 := ⟨k - 1, by omega⟩
  simp only [spec_poSame.l0]
  rw [if_neg (by omega), List.drop_of_length_le (by omega), List.drop_of_length_le (by omega)]
  rfl
 | succ e ih =>
  intro i hi k hk
  obtain ⟨k, rfl⟩ : ∃ q, k = q + 1 := ⟨k - 1, by omega⟩
  rw [rD_drop l i (by omega), rD_drop m i (by omega), eqL]
  simp only [spec_poSame.l0]
  rw [if_pos (by omega), if_pos (by omega), if_pos (by omega), if_pos (by omega)]
  cases h1 : (rD l i).f0 == (rD m i).f0 <;> cases h2 : (rD l i).f1 == (rD m i).f1
  ·rw [if_pos (by simp)]; simp
  ·rw [if_pos (by simp)]; simp
  ·rw [if_pos (by simp)]; simp
  ·rw [if_neg (by simp), wrap_succ i (by omega), ih (i + 1) (by omega) k (by omega)]; simp
theorem same_is (l m : List DG) (hl : l.length ≤ 1048576) (k : Nat) (hk : l.length < k) : spec_poSame.f k l m = some (eqL l m) := by
 unfold spec_poSame.f
 by_cases h : l.length = m.length
 ·rw [if_pos (by omega)]
  exact sameis_rounds l m h hl l.length 0 (by omega) k hk
 ·rw [if_neg (by omega)]
  cases he : eqL l m with
  | false => rfl
  | true => exact absurd (eqL_len l m he) h
theorem sameE_l0 (l m : List DG) (x12 : Int) : ∀ (k : Nat) (x13 : Int), spec_poSame.l0 k l m x12 x13 = impl_Diagonal_47.l0 k l m x12 x13
 | 0, _ => rfl
 | k + 1, x13 => by
  simp only [spec_poSame.l0, impl_Diagonal_47.l0, sameE_l0 l m x12 k]
theorem equal_is (l m : List DG) (hl : l.length ≤ 1048576) (k : Nat) (hk : l.length < k) : impl_Diagonal_47.f k l m = some (eqL l m) := by
 rw [← same_is l m hl k hk]
 unfold spec_poSame.f impl_Diagonal_47.f
 rw [sameE_l0]

theorem leastF_keep {keep : List DG → Option Bool} {of : List DG → List DG} {ts : List (List DG)} (h : ∀ x ∈ ts, keep x = some (eqL (of x) x)) : leastF keep ts = some (ts.filter fun x => eqL (of x) x) := by
 unfold leastF
 have ha : (ts.all fun x => (keep x).isSome) = true := by
  rw [List.all_eq_true]
  intro x hx
  rw [h x hx]
  rfl
 rw [if_pos ha]
 congr 1
 refine List.filter_congr ?_
 intro x hx
 rw [h x hx]
 rfl
theorem rdLD_at (L : List (List DG)) (i : Nat) (h : i < L.length) : rd_L2 L (i : Int) = L[i] := by
 unfold rd_L2
 rw [Int.toNat_natCast, List.getD_eq_getElem?_getD, List.getElem?_eq_getElem h]
 rfl
theorem filter_drop {q : List DG → Bool} (L : List (List DG)) (i : Nat) (h : i < L.length) : (L.drop i).filter q = (if q L[i] = true then [L[i]] else []) ++ (L.drop (i + 1)).filter q := by
 rw [List.drop_eq_getElem_cons h, List.filter_cons]
 split <;> rfl

theorem least_tells (a b : Int) : spec_l1Least.f a b = some (min a b) := by
 unfold spec_l1Least.f
 split <;> congr 1 <;> omega
theorem most_tells (a b : Int) : spec_l1Most.f a b = some (max a b) := by
 unfold spec_l1Most.f
 split <;> congr 1 <;> omega

theorem Tri.small' {n : Int} {l : List DG} (T : Tri n l) : l.length ≤ 9 := by
 have := T.len
 have := T.n3
 omega

def ltD (x y : DG) : Prop := x.f0 < y.f0 ∨ (x.f0 = y.f0 ∧ x.f1 < y.f1)
def leD (x y : DG) : Prop := x.f0 < y.f0 ∨ (x.f0 = y.f0 ∧ x.f1 ≤ y.f1)
theorem leD_antisymm {x y : DG} (h1 : leD x y) (h2 : leD y x) : x = y := by
 obtain ⟨a, b⟩ := x
 obtain ⟨c, d⟩ := y
 unfold leD at h1 h2
 simp only at h1 h2
 have e1 : a = c := by omega
 have e2 : b = d := by omega
 rw [e1, e2]
theorem sorted_unique : ∀ {l m : List DG}, l.Perm m → l.Pairwise leD → m.Pairwise leD → l = m
 | [], m, h, _, _ => (List.Perm.nil_eq h)
 | x :: l, [], h, _, _ => by have := h.length_eq; simp at this
 | x :: l, y :: m, h, h1, h2 => by
  obtain ⟨a1, a2⟩ := List.pairwise_cons.1 h1
  obtain ⟨b1, b2⟩ := List.pairwise_cons.1 h2
  have e : x = y := by
   have hx : x ∈ y :: m := h.subset (List.mem_cons_self ..)
   have hy : y ∈ x :: l := h.symm.subset (List.mem_cons_self ..)
   rcases List.mem_cons.1 hx with hx | hx
   ·exact hx
   ·rcases List.mem_cons.1 hy with hy | hy
    ·exact hy.symm
    ·exact leD_antisymm (a1 y hy) (b1 x hx)
  rw [e] at h ⊢
  rw [sorted_unique (List.Perm.cons_inv h) a2 b2]
theorem sorted_ins {A B : List DG} {d : DG} (h : (A ++ B).Pairwise leD) (hA : ∀ x ∈ A, leD x d) (hB : ∀ x ∈ B, leD d x) : (A ++ d :: B).Pairwise leD := by
 rw [List.pairwise_append] at h ⊢
 obtain ⟨h1, h2, h3⟩ := h
 refine ⟨h1, List.pairwise_cons.2 ⟨hB, h2⟩, fun x hx y hy => ?_⟩
 rcases List.mem_cons.1 hy with e | e
 ·rw [e]
  exact hA x hx
 ·exact h3 x hx y e
theorem leD_trans {x y z : DG} (h1 : leD x y) (h2 : leD y z) : leD x z := by
 unfold leD at *
 omega
theorem rT_mid (A : List DG) (d : DG) (R : List DG) (i : Int) (hi : i = (A.length : Int)) : rd_T52 (A ++ d :: R) i = d := by
 unfold rd_T52
 rw [hi, Int.toNat_natCast, List.getD_eq_getElem?_getD]
 simp
/-- The reference's place for one: behind all that are less. -/
theorem ps_l1 (d : DG) (x8 : List DG) (x9 x10 : Int) (e : Nat) : ∀ (A B : List DG) (k : Nat), B.length = e → A.length + B.length ≤ 1000 → (A ++ B).Pairwise leD → (∀ x ∈ A, leD x d) → e + 2 < k →
  ∃ S k', k ≤ k' + e + 1 ∧ S.Pairwise leD ∧ S.Perm (d :: (A ++ B)) ∧ spec_poSorted.l1 k (A ++ B) (A.length : Int) x8 x9 x10 d.f0 d.f1 = spec_poSorted.l0 k' S x8 x9 (wrap64 (x10 + 1)) := by
 induction e with
 | zero =>
  intro A B k hB hl hs hA hk
  obtain ⟨k, rfl⟩ : ∃ q, k = q + 1 := ⟨k - 1, by omega⟩
  have : B = [] := List.length_eq_zero_iff.1 hB
  subst this
  rw [List.append_nil] at hs ⊢
  refine ⟨A ++ [d], k, by omega, sorted_ins (by simpa using hs) hA (by simp), by simpa using (List.perm_append_comm (l₁ := A) (l₂ := [d])), ?_⟩
  simp only [spec_poSorted.l1, Int.toNat_natCast, Option.bind_some, List.nil_append, List.take_length, List.drop_length, List.length_append, List.length_nil, List.length_singleton, List.append_nil]
  rw [if_neg (by omega), if_pos (by omega), if_pos (by omega), if_pos (by omega), if_pos (by omega), if_pos (by omega)]
 | succ e ih =>
  intro A B k hB hl hs hA hk
  obtain ⟨k, rfl⟩ : ∃ q, k = q + 1 := ⟨k - 1, by omega⟩
  cases B with
  | nil => simp at hB
  | cons z B =>
   rw [List.length_cons] at hB hl
   have w : wrap64 ((A.length : Int) + 1) = ((A ++ [z]).length : Int) := by
    rw [List.length_append, List.length_singleton]
    unfold wrap64
    omega
   have r1 : rd_T52 (A ++ z :: B) (A.length : Int) = z := rT_mid _ _ _ _ rfl
   have hlen : (A ++ z :: B).length = A.length + (B.length + 1) := by simp
   simp only [spec_poSorted.l1]
   rw [if_pos (by rw [hlen]; omega), if_pos (by omega), r1, poLess_tells, Option.bind_some, w]
   cases hc : lessB z.f0 z.f1 d.f0 d.f1
   ·rw [if_neg (by simp)]
    have hdz : leD d z := by
     simp only [lessB, decide_eq_false_iff_not] at hc
     unfold leD
     omega
    refine ⟨A ++ d :: z :: B, k, by omega, sorted_ins hs hA ?_, List.perm_middle, ?_⟩
    ·intro x hx
     rcases List.mem_cons.1 hx with e | e
     ·rw [e]
      exact hdz
     ·exact leD_trans hdz ((List.pairwise_cons.1 (List.pairwise_append.1 hs).2.1).1 x e)
    ·have t1 : (A ++ z :: B).take A.length = A := by simp
     have t2 : (A ++ z :: B).drop A.length = z :: B := by simp
     simp only [Int.toNat_natCast, Option.bind_some, List.nil_append, t1, t2, List.length_append, List.length_nil, List.length_singleton, List.length_cons]
     rw [if_pos (by omega), if_pos (by omega), if_pos (by omega), if_pos (by omega)]
     simp
   ·rw [if_pos rfl]
    have hzd : leD z d := by
     simp only [lessB, decide_eq_true_eq] at hc
     unfold leD
     omega
    have ea : A ++ z :: B = (A ++ [z]) ++ B := by simp
    rw [ea] at hs ⊢
    obtain ⟨S, k', h1, h2, h3, h4⟩ := ih (A ++ [z]) B k (by omega) (by rw [List.length_append, List.length_singleton]; omega) hs (by
     intro x hx
     rcases List.mem_append.1 hx with e | e
     ·exact hA x e
     ·rw [List.mem_singleton] at e
      rw [e]
      exact hzd) (by omega)
    exact ⟨S, k', by omega, h2, h3, h4⟩

theorem ps_l0 (x8 : List DG) (hx : x8.length ≤ 100) (e : Nat) : ∀ (i : Nat) (S : List DG) (k : Nat), i + e = x8.length → S.length = i → S.Pairwise leD → S.Perm (x8.take i) → 110 * e + 10 < k →
  ∃ r, spec_poSorted.l0 k S x8 (x8.length : Int) (i : Int) = some r ∧ r.Pairwise leD ∧ r.Perm x8 := by
 induction e with
 | zero =>
  intro i S k hi hS hs hp hk
  obtain ⟨k, rfl⟩ : ∃ q, k = q + 1 := ⟨k - 1, by omega⟩
  refine ⟨S, ?_, hs, ?_⟩
  ·simp only [spec_poSorted.l0]
   rw [if_neg (by omega)]
  ·rwa [List.take_of_length_le (by omega)] at hp
 | succ e ih =>
  intro i S k hi hS hs hp hk
  obtain ⟨k, rfl⟩ : ∃ q, k = q + 1 := ⟨k - 1, by omega⟩
  obtain ⟨S', k', h1, h2, h3, h4⟩ := ps_l1 (rD x8 i) x8 (x8.length : Int) (i : Int) S.length [] S k rfl (by simp; omega) (by simpa using hs) (by simp) (by omega)
  rw [wrap_succ i (by omega)] at h4
  have hlen : S'.length = i + 1 := by rw [h3.length_eq]; simp; omega
  have hp' : S'.Perm (x8.take (i + 1)) := by
   refine h3.trans ?_
   have e1 : x8.take (i + 1) = x8.take i ++ [rD x8 i] := by
    rw [List.take_succ_eq_append_getElem (by omega)]
    congr 2
    unfold rD rd_T52
    rw [Int.toNat_natCast, List.getD_eq_getElem?_getD, List.getElem?_eq_getElem (by omega)]
    rfl
   rw [e1, List.nil_append]
   exact (List.Perm.cons _ hp).trans (List.perm_append_comm (l₁ := [rD x8 i]))
  obtain ⟨r, g1, g2, g3⟩ := ih (i + 1) S' k' (by omega) hlen h2 hp' (by omega)
  refine ⟨r, ?_, g2, g3⟩
  simp only [spec_poSorted.l0]
  rw [if_pos (by omega), if_pos (by omega), if_pos (by omega)]
  rw [← g1, ← h4]
  rfl

theorem poSorted_tells (l : List DG) (h : l.length ≤ 100) (k : Nat) (hk : 11010 < k) : ∃ r, spec_poSorted.f k l = some r ∧ r.Pairwise leD ∧ r.Perm l :=
 ps_l0 l h l.length 0 [] k (by omega) rfl List.Pairwise.nil (by simp) (by omega)

theorem cmpD_neg (a b c d : Int) : cmpD a b c d < 0 ↔ lessB a b c d = true := by
 have := cmpD_nonneg a b c d
 cases h : lessB a b c d
 ·rw [h] at this
  simp only [true_iff, iff_true] at this
  simp only [Bool.false_eq_true, iff_false]
  omega
 ·rw [h] at this
  simp only [Bool.true_eq_false, iff_false] at this
  simp only [iff_true]
  omega
theorem swap_set (A : List DG) (z d : DG) (R : List DG) : ((A ++ z :: d :: R).set (A.length + 1) z).set A.length d = A ++ d :: z :: R := by
 induction A with
 | nil => rfl
 | cons x A ih => simpa using ih

theorem ins_l1 (n : Int) (d : DG) (C : List DG) (m : Nat) : ∀ (A B : List DG) (k : Nat) (i : Nat), A.length = m → (A ++ B).Pairwise leD → (∀ x ∈ B, leD d x) → i = A.length + B.length → i ≤ 1000 → m + 8 < k →
  ∃ S k', k ≤ k' + m + 1 ∧ S.Pairwise leD ∧ S.Perm (A ++ d :: B) ∧ impl_Diagonal_120_s1.l1 k (A ++ d :: (B ++ C)) 0 n (i : Int) (m : Int) = impl_Diagonal_120_s1.l0 k' (S ++ C) 0 n ((i : Int) + 1) := by
 induction m with
 | zero =>
  intro A B k i hA hs hB hi hi2 hk
  obtain ⟨k, rfl⟩ : ∃ q, k = q + 1 := ⟨k - 1, by omega⟩
  have : A = [] := List.length_eq_zero_iff.1 hA
  subst this
  have w : wrap64 ((i : Int) + 1) = (i : Int) + 1 := by unfold wrap64; omega
  refine ⟨d :: B, k, by omega, sorted_ins hs (by simp) hB, List.Perm.refl _, ?_⟩
  simp only [impl_Diagonal_120_s1.l1]
  rw [if_neg (by omega), w]
  rfl
 | succ m ih =>
  intro A B k i hA hs hB hi hi2 hk
  obtain ⟨k, rfl⟩ : ∃ q, k = q + 1 := ⟨k - 1, by omega⟩
  rcases List.eq_nil_or_concat A with e | ⟨A', z, e⟩
  ·subst e
   simp at hA
  ·rw [List.concat_eq_append] at e
   subst e
   rw [List.length_append, List.length_singleton] at hA hi
   have w0 : wrap64 ((i : Int) + 1) = (i : Int) + 1 := by unfold wrap64; omega
   have w1 : wrap64 (((m + 1 : Nat) : Int) - 1) = (m : Int) := by unfold wrap64; omega
   have el : A' ++ [z] ++ d :: (B ++ C) = A' ++ z :: d :: (B ++ C) := by simp
   have r1 : rd_T52 (A' ++ z :: d :: (B ++ C)) ((m + 1 : Nat) : Int) = d := by
    rw [← el]
    exact rT_mid _ _ _ _ (by rw [List.length_append, List.length_singleton]; omega)
   have r2 : rd_T52 (A' ++ z :: d :: (B ++ C)) (m : Int) = z := rT_mid _ _ _ _ (by omega)
   have hlen : (A' ++ z :: d :: (B ++ C)).length = A'.length + (B.length + C.length + 2) := by simp
   rw [el]
   simp only [impl_Diagonal_120_s1.l1]
   rw [if_pos (by omega), if_pos (by omega), if_pos (by rw [hlen]; omega), w1, if_pos (by omega), if_pos (by rw [hlen]; omega), r1, r2, compareDiagonals_tells _ _ _ _ k (by omega), Option.bind_some, w0]
   by_cases hc : cmpD d.f0 d.f1 z.f0 z.f1 < 0
   ·rw [if_pos hc]
    have hlt := (cmpD_neg _ _ _ _).1 hc
    simp only [lessB, decide_eq_true_eq] at hlt
    have hsw : ((A' ++ z :: d :: (B ++ C)).set ((m + 1 : Nat) : Int).toNat ⟨z.f0, z.f1⟩).set (m : Int).toNat ⟨d.f0, d.f1⟩ = A' ++ d :: ((z :: B) ++ C) := by
     rw [Int.toNat_natCast, Int.toNat_natCast, show m = A'.length by omega]
     exact swap_set A' z d (B ++ C)
    rw [hsw]
    rw [List.append_assoc] at hs
    obtain ⟨S, k', h1, h2, h3, h4⟩ := ih A' (z :: B) k i (by omega) (by simpa using hs) (by
     intro x hx
     have hdz : leD d z := by unfold leD; omega
     rcases List.mem_cons.1 hx with e | e
     ·rw [e]
      exact hdz
     ·exact hB x e) (by simp; omega) hi2 (by omega)
    refine ⟨S, k', by omega, h2, h3.trans ?_, h4⟩
    have : (A' ++ [z] ++ d :: B) = A' ++ z :: d :: B := by simp
    rw [this]
    exact List.Perm.append_left A' (List.Perm.swap z d B)
   ·rw [if_neg hc]
    have hzd : leD z d := by
     have := mt (cmpD_neg _ _ _ _).2 hc
     simp only [lessB, decide_eq_true_eq] at this
     unfold leD
     omega
    refine ⟨A' ++ [z] ++ d :: B, k, by omega, ?_, List.Perm.refl _, ?_⟩
    ·refine sorted_ins hs (fun x hx => ?_) hB
     rcases List.mem_append.1 hx with e | e
     ·have h5 := (List.pairwise_append.1 (List.pairwise_append.1 hs).1).2.2 x e z (by simp)
      exact leD_trans h5 hzd
     ·rw [List.mem_singleton] at e
      rw [e]
      exact hzd
    ·simp

theorem ins_l0 (n : Nat) (hn : n ≤ 12) (C : List DG) : ∀ (S : List DG) (k : Nat), S.Pairwise leD → 0 < S.length → S.length + C.length = n → 25 * C.length + 25 < k →
  ∃ r, impl_Diagonal_120_s1.l0 k (S ++ C) 0 (n : Int) (S.length : Int) = some r ∧ r.Pairwise leD ∧ r.Perm (S ++ C) := by
 induction C with
 | nil =>
  intro S k hs h0 hl hk
  obtain ⟨k, rfl⟩ : ∃ q, k = q + 1 := ⟨k - 1, by omega⟩
  refine ⟨S, ?_, hs, by simp⟩
  simp only [impl_Diagonal_120_s1.l0, List.append_nil]
  rw [if_neg (by simp at hl; omega)]
 | cons d C ih =>
  intro S k hs h0 hl hk
  rw [List.length_cons] at hl hk
  obtain ⟨k, rfl⟩ : ∃ q, k = q + 1 := ⟨k - 1, by omega⟩
  obtain ⟨S', k', h1, h2, h3, h4⟩ := ins_l1 (n : Int) d C S.length S [] k S.length rfl (by simpa using hs) (by simp) (by simp) (by omega) (by omega)
  have hlen : S'.length = S.length + 1 := by rw [h3.length_eq]; simp
  obtain ⟨r, g1, g2, g3⟩ := ih S' k' h2 (by omega) (by omega) (by omega)
  refine ⟨r, ?_, g2, g3.trans ?_⟩
  ·simp only [impl_Diagonal_120_s1.l0]
   rw [if_pos (by omega)]
   rw [show (S'.length : Int) = (S.length : Int) + 1 by omega] at g1
   rw [← g1, ← h4]
   simp
  ·have := List.Perm.append_right C h3
   simpa using this

theorem len12 (k : Nat) (L : Nat) (h : L ≤ 12) : ∃ r, bits_Len.f (k + 1) (IntKind.u64.wrap (L : Int)) = some r := by
 have : L = 0 ∨ L = 1 ∨ L = 2 ∨ L = 3 ∨ L = 4 ∨ L = 5 ∨ L = 6 ∨ L = 7 ∨ L = 8 ∨ L = 9 ∨ L = 10 ∨ L = 11 ∨ L = 12 := by omega
 rcases this with rfl | rfl | rfl | rfl | rfl | rfl | rfl | rfl | rfl | rfl | rfl | rfl | rfl <;> exact ⟨_, rfl⟩

theorem sortFunc_tells (l : List DG) (h : l.length ≤ 12) (k : Nat) (hk : 400 < k) : ∃ r, impl_Diagonal_89_s4.f k l = some r ∧ r.Pairwise leD ∧ r.Perm l := by
 obtain ⟨k, rfl⟩ : ∃ q, k = q + 1 := ⟨k - 1, by omega⟩
 obtain ⟨q, hq⟩ := len12 k l.length h
 have w : wrap64 (0 + 1) = 1 := by unfold wrap64; omega
 unfold impl_Diagonal_89_s4.f impl_Diagonal_111.f
 rw [hq]
 simp only [Option.bind_some]
 rw [if_pos (by omega)]
 unfold impl_Diagonal_120_s1.f
 rw [w]
 cases l with
 | nil =>
  refine ⟨[], ?_, List.Pairwise.nil, List.Perm.refl _⟩
  rfl
 | cons d C =>
  obtain ⟨r, g1, g2, g3⟩ := ins_l0 (C.length + 1) h C [d] (k + 1) (by simp) (by simp) (by simp; omega) (by simp at h; omega)
  refine ⟨r, ?_, g2, g3⟩
  have e : impl_Diagonal_120_s1.l0 (k + 1) (d :: C) 0 ((d :: C).length : Int) 1 = some r := g1
  rw [e]
  rfl


def mapT (τ : Int → Int) (d : DG) : DG := ⟨min (τ d.f0) (τ d.f1), max (τ d.f0) (τ d.f1)⟩
theorem poMap_rounds (N : List Int) (l : List DG) (hl : l.length ≤ 100) (hd : ∀ d ∈ l, 0 ≤ d.f0 ∧ d.f0 < (N.length : Int) ∧ 0 ≤ d.f1 ∧ d.f1 < (N.length : Int)) (e : Nat) : ∀ (i k : Nat) (acc : List DG), i + e = l.length → acc.length = i → e < k →
  spec_poMap.l0 k N acc l (l.length : Int) (i : Int) = (spec_poSorted.f (k - e - 1) (acc ++ (l.drop i).map (mapT (rd N)))).bind fun t => some t := by
 induction e with
 | zero =>
  intro i k acc hi hacc hk
  obtain ⟨k, rfl⟩ : ∃ q, k = q + 1 := ⟨k - 1, by omega⟩
  simp only [spec_poMap.l0]
  rw [if_neg (by omega), List.drop_of_length_le (by omega), List.map_nil, List.append_nil]
  rfl
 | succ e ih =>
  intro i k acc hi hacc hk
  obtain ⟨k, rfl⟩ : ∃ q, k = q + 1 := ⟨k - 1, by omega⟩
  have hm : rD l i ∈ l := by
   have : rD l i ∈ l.drop i := by
    rw [rD_drop l i (by omega)]
    exact List.mem_cons_self ..
   exact List.mem_of_mem_drop this
  have hok := hd _ hm
  simp only [spec_poMap.l0]
  rw [if_pos (by omega), if_pos (by omega), if_pos (by omega), if_pos hok.1, if_pos hok.2.1, if_pos hok.2.2.1, if_pos hok.2.2.2, least_tells, most_tells]
  simp only [Option.bind_some]
  rw [if_pos (by omega), wrap_succ i (by omega), rD_drop l i (by omega), List.map_cons, show k + 1 - (e + 1) - 1 = k - e - 1 by omega, ih (i + 1) k _ (by omega) (by rw [List.length_append, List.length_singleton]; omega) (by omega)]
  simp [mapT]
theorem poMap_tells (N : List Int) (l : List DG) (hl : l.length ≤ 100) (hd : ∀ d ∈ l, 0 ≤ d.f0 ∧ d.f0 < (N.length : Int) ∧ 0 ≤ d.f1 ∧ d.f1 < (N.length : Int)) (k : Nat) (hk : 11200 < k) : ∃ r, spec_poMap.f k l N = some r ∧ r.Pairwise leD ∧ r.Perm (l.map (mapT (rd N))) := by
 have h := poMap_rounds N l hl hd l.length 0 k [] (by omega) rfl (by omega)
 rw [List.drop_zero, List.nil_append] at h
 obtain ⟨r, h1, h2, h3⟩ := poSorted_tells (l.map (mapT (rd N))) (by rw [List.length_map]; exact hl) (k - l.length - 1) (by omega)
 refine ⟨r, ?_, h2, h3⟩
 unfold spec_poMap.f
 rw [show ((0 : Nat) : Int) = 0 from rfl] at h
 rw [h, h1]
 rfl

theorem rd_app (l : List Int) (v i : Int) (hi : 0 ≤ i) (h : i ≤ (l.length : Int)) : rd (l ++ [v]) i = if i = (l.length : Int) then v else rd l i := by
 unfold rd
 rw [List.getD_eq_getElem?_getD, List.getD_eq_getElem?_getD]
 by_cases e : i = (l.length : Int)
 ·rw [if_pos e, e, Int.toNat_natCast]
  simp
 ·rw [if_neg e, List.getElem?_append_left (by omega)]

theorem turn_rounds (n K : Int) (hn : 3 ≤ n ∧ n ≤ 12) (l : List DG) (e : Nat) : ∀ (i : Nat) (acc : List Int), (i : Int) + e = n → acc.length = i → (∀ j : Int, 0 ≤ j → j < (i : Int) → rd acc j = Int.tmod (wrap64 (j + K)) n) →
  ∃ N : List Int, (N.length : Int) = n ∧ (∀ j : Int, 0 ≤ j → j < n → rd N j = Int.tmod (wrap64 (j + K)) n) ∧ ∀ k, e < k → spec_poTurn.l0 k n l K acc (i : Int) = (spec_poMap.f (k - e - 1) l N).bind fun t => some t := by
 induction e with
 | zero =>
  intro i acc hi hacc h
  refine ⟨acc, by omega, fun j j1 j2 => h j j1 (by omega), fun k hk => ?_⟩
  obtain ⟨k, rfl⟩ : ∃ q, k = q + 1 := ⟨k - 1, by omega⟩
  simp only [spec_poTurn.l0]
  rw [if_neg (by omega)]
  rfl
 | succ e ih =>
  intro i acc hi hacc h
  obtain ⟨N, h1, h2, h3⟩ := ih (i + 1) (acc ++ [Int.tmod (wrap64 ((i : Int) + K)) n]) (by omega) (by rw [List.length_append, List.length_singleton]; omega) (by
   intro j j1 j2
   rw [rd_app _ _ _ j1 (by omega)]
   by_cases e0 : j = (acc.length : Int)
   ·rw [if_pos e0, show (i : Int) = j by omega]
   ·rw [if_neg e0]
    exact h j j1 (by omega))
  refine ⟨N, h1, h2, fun k hk => ?_⟩
  obtain ⟨k, rfl⟩ : ∃ q, k = q + 1 := ⟨k - 1, by omega⟩
  simp only [spec_poTurn.l0]
  rw [if_pos (by omega), if_neg (by omega), if_pos (by omega), wrap_succ i (by omega), show k + 1 - (e + 1) - 1 = k - e - 1 by omega]
  exact h3 k (by omega)
theorem renamed_rounds (n K : Int) (hn : 3 ≤ n ∧ n ≤ 12) (l : List DG) (hl : l.length ≤ 12) (e : Nat) : ∀ (i k : Nat) (acc : List DG), i + e = l.length → acc.length = i → e < k →
  impl_renamed_s2.l0 k acc l (l.length : Int) (i : Int) K n = (impl_Diagonal_89_s4.f (k - e - 1) (acc ++ (l.drop i).map (mapT fun c => Int.tmod (wrap64 (c + K)) n))).bind fun t => some t := by
 induction e with
 | zero =>
  intro i k acc hi hacc hk
  obtain ⟨k, rfl⟩ : ∃ q, k = q + 1 := ⟨k - 1, by omega⟩
  simp only [impl_renamed_s2.l0]
  rw [if_neg (by omega), List.drop_of_length_le (by omega), List.map_nil, List.append_nil]
  rfl
 | succ e ih =>
  intro i k acc hi hacc hk
  obtain ⟨k, rfl⟩ : ∃ q, k = q + 1 := ⟨k - 1, by omega⟩
  have m1 : ∀ a b : Int, mn a b = min a b := fun a b => by unfold mn; split <;> omega
  have m2 : ∀ a b : Int, mx a b = max a b := fun a b => by unfold mx; split <;> omega
  have t1 : ∀ c : Int, impl_turned_1_s3.f c K n = some (Int.tmod (wrap64 (c + K)) n) := by
   intro c
   unfold impl_turned_1_s3.f
   rw [if_neg (by omega)]
  simp only [impl_renamed_s2.l0, t1, m1, m2]
  rw [if_pos (by omega), if_pos (by omega), if_pos (by omega)]
  simp only [Option.bind_some]
  rw [if_pos (by omega), wrap_succ i (by omega), rD_drop l i (by omega), List.map_cons, show k + 1 - (e + 1) - 1 = k - e - 1 by omega, ih (i + 1) k _ (by omega) (by rw [List.length_append, List.length_singleton]; omega) (by omega)]
  simp [mapT]

/-- Its diagonals have corners. -/
def Ins (n : Int) (l : List DG) : Prop := l.length ≤ 12 ∧ ∀ d ∈ l, 0 ≤ d.f0 ∧ d.f0 ≤ n - 1 ∧ 0 ≤ d.f1 ∧ d.f1 ≤ n - 1
theorem tmod_in (n K c : Int) (hn : 3 ≤ n ∧ n ≤ 12) (hK : 0 ≤ K ∧ K ≤ n - 1) (hc : 0 ≤ c ∧ c ≤ n - 1) : 0 ≤ Int.tmod (wrap64 (c + K)) n ∧ Int.tmod (wrap64 (c + K)) n ≤ n - 1 := by
 have w : wrap64 (c + K) = c + K := by unfold wrap64; omega
 rw [w, Int.tmod_eq_emod_of_nonneg (by omega)]
 have h1 := Int.emod_nonneg (c + K) (show n ≠ 0 by omega)
 have h2 := Int.emod_lt_of_pos (c + K) (show 0 < n by omega)
 omega
theorem ins_map {n : Int} {l r : List DG} (h : Ins n l) (τ : Int → Int) (hτ : ∀ c, 0 ≤ c → c ≤ n - 1 → 0 ≤ τ c ∧ τ c ≤ n - 1) (hp : r.Perm (l.map (mapT τ))) : Ins n r := by
 refine ⟨by rw [hp.length_eq, List.length_map]; exact h.1, fun d hd => ?_⟩
 obtain ⟨e, he, rfl⟩ := List.mem_map.1 (hp.subset hd)
 have h1 := h.2 e he
 have h2 := hτ e.f0 h1.1 h1.2.1
 have h3 := hτ e.f1 h1.2.2.1 h1.2.2.2
 unfold mapT
 simp only
 omega
theorem turn_tells (n K : Int) (hn : 3 ≤ n ∧ n ≤ 12) (hK : 0 ≤ K ∧ K ≤ n - 1) (l : List DG) (hl : Ins n l) : ∃ r, Ins n r ∧ r.length = l.length ∧ r.Pairwise leD ∧ r.Perm (l.map (mapT fun c => Int.tmod (wrap64 (c + K)) n)) ∧ ∀ k, 20050 < k → spec_poTurn.f k n l K = some r ∧ impl_turned.f k n l K = some r := by
 have hlen := hl.1
 obtain ⟨N, n1, n2, n3⟩ := turn_rounds n K hn l n.toNat 0 [] (by omega) rfl (by omega)
 have hin : ∀ d ∈ l, 0 ≤ d.f0 ∧ d.f0 < (N.length : Int) ∧ 0 ≤ d.f1 ∧ d.f1 < (N.length : Int) := fun d hd => by have := hl.2 d hd; omega
 have hmap : l.map (mapT (rd N)) = l.map (mapT fun c => Int.tmod (wrap64 (c + K)) n) := by
  apply List.map_congr_left
  intro d hd
  have := hl.2 d hd
  unfold mapT
  rw [n2 d.f0 (by omega) (by omega), n2 d.f1 (by omega) (by omega)]
 obtain ⟨r, _, r1, r2⟩ := poMap_tells N l (by omega) hin 20000 (by omega)
 rw [hmap] at r2
 refine ⟨r, ins_map hl _ (fun c c0 c1 => tmod_in n K c hn hK ⟨c0, c1⟩) r2, by rw [r2.length_eq, List.length_map], r1, r2, fun k hk => ⟨?_, ?_⟩⟩
 ·obtain ⟨r', q1, q2, q3⟩ := poMap_tells N l (by omega) hin (k - n.toNat - 1) (by omega)
  rw [hmap] at q3
  have er : r' = r := sorted_unique (q3.trans r2.symm) q2 r1
  have h3 := n3 k (by omega)
  rw [show ((0 : Nat) : Int) = 0 from rfl, q1, er, Option.bind_some] at h3
  exact h3
 ·have h3 := renamed_rounds n K hn l (by omega) l.length 0 k [] (by omega) rfl (by omega)
  obtain ⟨r', q1, q2, q3⟩ := sortFunc_tells ((l.map (mapT fun c => Int.tmod (wrap64 (c + K)) n))) (by rw [List.length_map]; omega) (k - l.length - 1) (by omega)
  have er : r' = r := sorted_unique (q3.trans r2.symm) q2 r1
  rw [show ((0 : Nat) : Int) = 0 from rfl, List.drop_zero, List.nil_append, q1, er, Option.bind_some] at h3
  unfold impl_turned.f impl_renamed_s2.f
  rw [h3, Option.bind_some]

theorem cmpD_zero (a b c d : Int) : cmpD a b c d = 0 ↔ a = c ∧ b = d := by
 unfold cmpD cmpI
 repeat' split
 all_goals omega
theorem before_rounds (l m : List DG) (hlm : l.length = m.length) (hl : l.length ≤ 1000) (e : Nat) : ∀ (i : Nat), i + e = l.length → ∃ (b : Bool) (c : Int), (c < 0 ↔ b = true) ∧ ∀ k, e + 5 < k →
  spec_caBefore.l0 k l m (l.length : Int) (i : Int) = some b ∧ impl_Diagonal_73_s0.l0 k l m l (l.length : Int) (i : Int) = some c := by
 induction e with
 | zero =>
  intro i hi
  refine ⟨false, 0, by simp, fun k hk => ?_⟩
  obtain ⟨k, rfl⟩ : ∃ q, k = q + 1 := ⟨k - 1, by omega⟩
  simp only [spec_caBefore.l0, impl_Diagonal_73_s0.l0]
  rw [if_neg (by omega), if_neg (by omega), if_neg (by omega)]
  exact ⟨rfl, rfl⟩
 | succ e ih =>
  intro i hi
  obtain ⟨b, c, h1, h2⟩ := ih (i + 1) (by omega)
  by_cases hc : (rD l i).f0 = (rD m i).f0 ∧ (rD l i).f1 = (rD m i).f1
  ·refine ⟨b, c, h1, fun k hk => ?_⟩
   obtain ⟨k, rfl⟩ : ∃ q, k = q + 1 := ⟨k - 1, by omega⟩
   have hd : (!((rD l i).f0 == (rD m i).f0) || !((rD l i).f1 == (rD m i).f1)) = false := by simp [hc.1, hc.2]
   simp only [spec_caBefore.l0, impl_Diagonal_73_s0.l0]
   rw [if_pos (by omega), if_pos (by omega), if_pos (by omega), if_pos (by omega), hd, if_neg (by simp), if_pos (by omega), if_pos (by omega), if_pos (by omega), if_neg (by omega), if_pos (by omega), compareDiagonals_tells _ _ _ _ k (by omega), Option.bind_some, if_pos ((cmpD_zero _ _ _ _).2 hc), wrap_succ i (by omega)]
   exact h2 k (by omega)
  ·refine ⟨lessB (rD l i).f0 (rD l i).f1 (rD m i).f0 (rD m i).f1, cmpD (rD l i).f0 (rD l i).f1 (rD m i).f0 (rD m i).f1, cmpD_neg _ _ _ _, fun k hk => ?_⟩
   obtain ⟨k, rfl⟩ : ∃ q, k = q + 1 := ⟨k - 1, by omega⟩
   have hd : (!((rD l i).f0 == (rD m i).f0) || !((rD l i).f1 == (rD m i).f1)) = true := by
    by_cases h0 : (rD l i).f0 = (rD m i).f0
    ·have : ¬ (rD l i).f1 = (rD m i).f1 := fun h => hc ⟨h0, h⟩
     simp [this]
    ·simp [h0]
   simp only [spec_caBefore.l0, impl_Diagonal_73_s0.l0]
   rw [if_pos (by omega), if_pos (by omega), if_pos (by omega), if_pos (by omega), hd, if_pos rfl, if_pos (by omega), if_pos (by omega), if_pos (by omega), if_neg (by omega), if_pos (by omega), compareDiagonals_tells _ _ _ _ k (by omega), Option.bind_some, if_neg (fun h => hc ((cmpD_zero _ _ _ _).1 h)), poLess_tells]
   exact ⟨rfl, rfl⟩
theorem before_tells (l m : List DG) (hlm : l.length = m.length) (hl : l.length ≤ 1000) : ∃ (b : Bool) (c : Int), (c < 0 ↔ b = true) ∧ ∀ k, l.length + 5 < k → spec_caBefore.f k l m = some b ∧ impl_compareLists.f k l m = some c := by
 obtain ⟨b, c, h1, h2⟩ := before_rounds l m hlm hl l.length 0 (by omega)
 refine ⟨b, c, h1, fun k hk => ?_⟩
 have h3 := h2 k hk
 rw [show ((0 : Nat) : Int) = 0 from rfl] at h3
 unfold impl_compareLists.f impl_Diagonal_73_s0.f
 rw [h3.2]
 exact ⟨h3.1, rfl⟩
theorem least_rounds (n : Int) (hn : 3 ≤ n ∧ n ≤ 12) (l : List DG) (hl : Ins n l) (e : Nat) : ∀ (i : Nat) (best : List DG), (i : Int) + e = n → Ins n best → best.length = l.length → ∃ r, Ins n r ∧ r.length = l.length ∧ ∀ k, 20060 + e < k →
  spec_caLeast.l0 k n l best (i : Int) = some r ∧ impl_leastTurned.l0 k n l best n (i : Int) = some r := by
 have hlen := hl.1
 induction e with
 | zero =>
  intro i best hi hb hbl
  refine ⟨best, hb, hbl, fun k hk => ?_⟩
  obtain ⟨k, rfl⟩ : ∃ q, k = q + 1 := ⟨k - 1, by omega⟩
  have hlt : best.length < 8796093022208 := by omega
  constructor
  ·simp only [spec_caLeast.l0, Option.bind_some, List.length_nil, Nat.zero_add, List.nil_append]
   rw [if_neg (by omega), if_pos hlt]
  ·simp only [impl_leastTurned.l0]
   rw [if_neg (by omega)]
 | succ e ih =>
  intro i best hi hb hbl
  obtain ⟨t, ti, tl, _, _, ht⟩ := turn_tells n (i : Int) hn (by omega) l hl
  obtain ⟨b, c, h1, h2⟩ := before_tells t best (by omega) (by omega)
  obtain ⟨r1, ra, rb, rc⟩ := ih (i + 1) t (by omega) ti tl
  obtain ⟨r2, rd, re, rf⟩ := ih (i + 1) best (by omega) hb hbl
  refine ⟨if b = true then r1 else r2, by split; exact ra; exact rd, by split; exact rb; exact re, fun k hk => ?_⟩
  obtain ⟨k, rfl⟩ : ∃ q, k = q + 1 := ⟨k - 1, by omega⟩
  have h3 := ht k (by omega)
  have h4 := h2 k (by omega)
  constructor
  ·simp only [spec_caLeast.l0]
   rw [if_pos (by omega), h3.1, Option.bind_some, h4.1, Option.bind_some, wrap_succ i (by omega)]
   cases b with
   | true =>
    rw [if_pos rfl, if_pos rfl]
    exact (rc k (by omega)).1
   | false =>
    rw [if_neg (by simp), if_neg (by simp)]
    exact (rf k (by omega)).1
  ·simp only [impl_leastTurned.l0]
   rw [if_pos (by omega), h3.2, Option.bind_some, h4.2, Option.bind_some, wrap_succ i (by omega)]
   cases b with
   | true =>
    rw [if_pos (h1.2 rfl), if_pos rfl]
    exact (rc k (by omega)).2
   | false =>
    rw [if_neg (fun h => by have := h1.1 h; cases this), if_neg (by simp)]
    exact (rf k (by omega)).2
theorem least_tells' (n : Int) (hn : 3 ≤ n ∧ n ≤ 12) (l : List DG) (hl : Ins n l) : ∃ r, Ins n r ∧ r.length = l.length ∧ ∀ k, 20100 < k → spec_caLeast.f k n l = some r ∧ impl_leastTurned.f k n l = some r := by
 have hlen := hl.1
 obtain ⟨r, h1, h2, h3⟩ := least_rounds n hn l hl n.toNat 0 l (by omega) hl rfl
 refine ⟨r, h1, h2, fun k hk => ?_⟩
 have h4 := h3 k (by omega)
 rw [show ((0 : Nat) : Int) = 0 from rfl] at h4
 have hcl : impl_Diagonal_66.f l = some l := by
  unfold impl_Diagonal_66.f
  rw [if_pos (by omega)]
 unfold spec_caLeast.f impl_leastTurned.f
 rw [hcl, Option.bind_some]
 exact h4

theorem mirror_rounds (n : Int) (hn : 3 ≤ n ∧ n ≤ 12) (l : List DG) (e : Nat) : ∀ (i : Nat) (acc : List Int), (i : Int) + e = n → acc.length = i → (∀ j : Int, 0 ≤ j → j < (i : Int) → rd acc j = n - 1 - j) →
  ∃ N : List Int, (N.length : Int) = n ∧ (∀ j : Int, 0 ≤ j → j < n → rd N j = n - 1 - j) ∧ ∀ k, e < k → spec_poMirror.l0 k n l acc (i : Int) = (spec_poMap.f (k - e - 1) l N).bind fun t => some t := by
 induction e with
 | zero =>
  intro i acc hi hacc h
  refine ⟨acc, by omega, fun j j1 j2 => h j j1 (by omega), fun k hk => ?_⟩
  obtain ⟨k, rfl⟩ : ∃ q, k = q + 1 := ⟨k - 1, by omega⟩
  simp only [spec_poMirror.l0]
  rw [if_neg (by omega)]
  rfl
 | succ e ih =>
  intro i acc hi hacc h
  obtain ⟨N, h1, h2, h3⟩ := ih (i + 1) (acc ++ [n - 1 - (i : Int)]) (by omega) (by rw [List.length_append, List.length_singleton]; omega) (by
   intro j j1 j2
   rw [rd_app _ _ _ j1 (by omega)]
   by_cases e0 : j = (acc.length : Int)
   ·rw [if_pos e0, show (i : Int) = j by omega]
   ·rw [if_neg e0]
    exact h j j1 (by omega))
  refine ⟨N, h1, h2, fun k hk => ?_⟩
  obtain ⟨k, rfl⟩ : ∃ q, k = q + 1 := ⟨k - 1, by omega⟩
  have w1 : wrap64 (n - 1) = n - 1 := by unfold wrap64; omega
  have w2 : wrap64 (n - 1 - (i : Int)) = n - 1 - (i : Int) := by unfold wrap64; omega
  simp only [spec_poMirror.l0, w1, w2]
  rw [if_pos (by omega), if_pos (by omega), wrap_succ i (by omega), show k + 1 - (e + 1) - 1 = k - e - 1 by omega]
  exact h3 k (by omega)
theorem renamedM_rounds (n : Int) (hn : 3 ≤ n ∧ n ≤ 12) (l : List DG) (hl : Ins n l) (e : Nat) : ∀ (i k : Nat) (acc : List DG), i + e = l.length → acc.length = i → e < k →
  impl_renamed_s5.l0 k acc l (l.length : Int) (i : Int) n = (impl_Diagonal_89_s4.f (k - e - 1) (acc ++ (l.drop i).map (mapT fun c => n - 1 - c))).bind fun t => some t := by
 have hlen := hl.1
 induction e with
 | zero =>
  intro i k acc hi hacc hk
  obtain ⟨k, rfl⟩ : ∃ q, k = q + 1 := ⟨k - 1, by omega⟩
  simp only [impl_renamed_s5.l0]
  rw [if_neg (by omega), List.drop_of_length_le (by omega), List.map_nil, List.append_nil]
  rfl
 | succ e ih =>
  intro i k acc hi hacc hk
  obtain ⟨k, rfl⟩ : ∃ q, k = q + 1 := ⟨k - 1, by omega⟩
  have m1 : ∀ a b : Int, mn a b = min a b := fun a b => by unfold mn; split <;> omega
  have m2 : ∀ a b : Int, mx a b = max a b := fun a b => by unfold mx; split <;> omega
  have hm : rD l i ∈ l := by
   have : rD l i ∈ l.drop i := by
    rw [rD_drop l i (by omega)]
    exact List.mem_cons_self ..
   exact List.mem_of_mem_drop this
  have hx := hl.2 _ hm
  have t1 : ∀ c : Int, 0 ≤ c → c ≤ n - 1 → impl_mirrored_1_s6.f c n = some (n - 1 - c) := by
   intro c c0 c1
   have w1 : wrap64 (n - 1) = n - 1 := by unfold wrap64; omega
   have w2 : wrap64 (n - 1 - c) = n - 1 - c := by unfold wrap64; omega
   unfold impl_mirrored_1_s6.f
   rw [w1, w2]
  simp only [impl_renamed_s5.l0, m1, m2]
  rw [if_pos (by omega), if_pos (by omega), if_pos (by omega), t1 _ hx.1 hx.2.1, t1 _ hx.2.2.1 hx.2.2.2]
  simp only [Option.bind_some]
  rw [if_pos (by omega), wrap_succ i (by omega), rD_drop l i (by omega), List.map_cons, show k + 1 - (e + 1) - 1 = k - e - 1 by omega, ih (i + 1) k _ (by omega) (by rw [List.length_append, List.length_singleton]; omega) (by omega)]
  simp [mapT]
theorem mirror_tells (n : Int) (hn : 3 ≤ n ∧ n ≤ 12) (l : List DG) (hl : Ins n l) : ∃ r, Ins n r ∧ r.length = l.length ∧ r.Pairwise leD ∧ r.Perm (l.map (mapT fun c => n - 1 - c)) ∧ ∀ k, 20050 < k → spec_poMirror.f k n l = some r ∧ impl_mirrored.f k n l = some r := by
 have hlen := hl.1
 obtain ⟨N, n1, n2, n3⟩ := mirror_rounds n hn l n.toNat 0 [] (by omega) rfl (by omega)
 have hin : ∀ d ∈ l, 0 ≤ d.f0 ∧ d.f0 < (N.length : Int) ∧ 0 ≤ d.f1 ∧ d.f1 < (N.length : Int) := fun d hd => by have := hl.2 d hd; omega
 have hmap : l.map (mapT (rd N)) = l.map (mapT fun c => n - 1 - c) := by
  apply List.map_congr_left
  intro d hd
  have := hl.2 d hd
  unfold mapT
  rw [n2 d.f0 (by omega) (by omega), n2 d.f1 (by omega) (by omega)]
 obtain ⟨r, _, r1, r2⟩ := poMap_tells N l (by omega) hin 20000 (by omega)
 rw [hmap] at r2
 refine ⟨r, ins_map hl _ (fun c c0 c1 => by omega) r2, by rw [r2.length_eq, List.length_map], r1, r2, fun k hk => ⟨?_, ?_⟩⟩
 ·obtain ⟨r', q1, q2, q3⟩ := poMap_tells N l (by omega) hin (k - n.toNat - 1) (by omega)
  rw [hmap] at q3
  have er : r' = r := sorted_unique (q3.trans r2.symm) q2 r1
  have h3 := n3 k (by omega)
  rw [show ((0 : Nat) : Int) = 0 from rfl, q1, er, Option.bind_some] at h3
  exact h3
 ·have h3 := renamedM_rounds n hn l hl l.length 0 k [] (by omega) rfl (by omega)
  obtain ⟨r', q1, q2, q3⟩ := sortFunc_tells (l.map (mapT fun c => n - 1 - c)) (by rw [List.length_map]; omega) (k - l.length - 1) (by omega)
  have er : r' = r := sorted_unique (q3.trans r2.symm) q2 r1
  rw [show ((0 : Nat) : Int) = 0 from rfl, List.drop_zero, List.nil_append, q1, er, Option.bind_some] at h3
  unfold impl_mirrored.f impl_renamed_s5.f
  rw [h3, Option.bind_some]

theorem class_tells (n : Int) (hn : 3 ≤ n ∧ n ≤ 12) (C : List DG) (hin : Ins n C) : ∃ r : List DG, r.length = C.length ∧ ∀ k, 20200 < k → spec_caClass.f k n C = some r ∧ impl_leastOfClass.f k n C = some r := by
 have hs := hin.1
 obtain ⟨r, ri, rl, hr⟩ := least_tells' n hn C hin
 obtain ⟨m, mi, ml, _, _, hm⟩ := mirror_tells n hn C hin
 obtain ⟨q, qi, ql, hq⟩ := least_tells' n hn m mi
 obtain ⟨b, c, h1, h2⟩ := before_tells q r (by omega) (by omega)
 refine ⟨if b = true then q else r, by split <;> omega, fun k hk => ?_⟩
 have g1 := hr k (by omega)
 have g2 := hm k (by omega)
 have g3 := hq k (by omega)
 have g4 := h2 k (by omega)
 constructor
 ·unfold spec_caClass.f
  rw [g1.1, Option.bind_some, g2.1, Option.bind_some, g3.1, Option.bind_some, g4.1, Option.bind_some]
  cases b <;> rfl
 ·unfold impl_leastOfClass.f
  rw [g1.2, Option.bind_some, g2.2, Option.bind_some, g3.2, Option.bind_some, g4.2, Option.bind_some]
  cases b with
  | true => rw [if_pos (h1.2 rfl), if_pos rfl]
  | false => rw [if_neg (fun h => by have := h1.1 h; cases this), if_neg (by simp)]

/-- The first ones of the classes: both programs tell them. -/
theorem classes_both (n : Int) (hn : 3 ≤ n ∧ n ≤ 8) (keep : Nat → List DG → Option Bool) (hkeep : ∀ k x y, impl_leastOfClass.f k n x = some y → y.length ≤ 1000 → 1000 < k → keep k x = some (eqL y x)) : ∃ r : List (List DG), r.length ≤ (trisOf n).length ∧ (∀ x ∈ r, x ∈ trisOf n) ∧ ∀ k, 20400 ≤ k → spec_caClasses.f k n = some r ∧ leastF (keep k) (trisOf n) = some r := by
 have hex : ∀ x : List DG, ∃ y : List DG, x ∈ trisOf n → y.length = x.length ∧ ∀ k, 20200 < k → spec_caClass.f k n x = some y ∧ impl_leastOfClass.f k n x = some y := by
  intro x
  by_cases hx : x ∈ trisOf n
  ·have T := tris_only n hn x hx
   have hl := T.len
   obtain ⟨r, h2, h3⟩ := class_tells n (by omega) x ⟨by omega, fun d hd => by have := T.ok d hd; omega⟩
   exact ⟨r, fun _ => ⟨h2, h3⟩⟩
  ·exact ⟨[], fun h => absurd h hx⟩
 obtain ⟨of, hof⟩ := Classical.axiomOfChoice hex
 have hsm := tris_small n hn
 have hlen := tris_len n
 refine ⟨(trisOf n).filter fun x => eqL (of x) x, List.length_filter_le .., fun x hx => (List.mem_filter.1 hx).1, fun k hk => ⟨?_, ?_⟩⟩
 ·unfold spec_caClasses.f
  rw [poAll_tells n hn, Option.bind_some, if_pos hsm]
  refine leastF_keep fun x hx => ?_
  have h3 := (hof x hx).1
  have h4 := hlen x hx
  unfold spec_caClasses.keep
  rw [((hof x hx).2 k (by omega)).1, Option.bind_some, same_is _ x (by omega) k (by omega)]
 ·refine leastF_keep fun x hx => ?_
  have h3 := (hof x hx).1
  have h4 := hlen x hx
  exact hkeep k x (of x) ((hof x hx).2 k (by omega)).2 (by omega) (by omega)

def iota52 : Int → Nat → List S52
 | _, 0 => []
 | v, m + 1 => ⟨v, v + 1⟩ :: iota52 (v + 2) m
theorem iota52_len : ∀ (m : Nat) (v : Int), (iota52 v m).length = m
 | 0, _ => rfl
 | m + 1, v => by rw [iota52, List.length_cons, iota52_len m]
theorem mark52_rounds (l : List S52) (hl : l.length ≤ 1048576) (e : Nat) : ∀ (i k : Nat) (P R : List S52) (v0 v : Int), P.length = i → R.length = e → i + e = l.length → 0 ≤ v0 → v0 ≤ 100000000 → v = v0 + 2 * (i : Int) → e < k →
  laws_markDiagonalS.l0 k (P ++ R) v (i : Int) = some (v0 + 2 * (l.length : Int), P ++ iota52 v e) := by
 induction e with
 | zero =>
  intro i k P R v0 v hP hR hi h00 h01 hv hk
  obtain ⟨k, rfl⟩ : ∃ q, k = q + 1 := ⟨k - 1, by omega⟩
  have : R = [] := List.length_eq_zero_iff.1 hR
  subst this
  simp only [laws_markDiagonalS.l0, List.append_nil, iota52]
  rw [if_neg (by omega), hv, show i = l.length by omega]
 | succ e ih =>
  intro i k P R v0 v hP hR hi h00 h01 hv hk
  obtain ⟨k, rfl⟩ : ∃ q, k = q + 1 := ⟨k - 1, by omega⟩
  cases R with
  | nil => simp at hR
  | cons x R =>
   rw [List.length_cons] at hR
   have w1 : wrap64 (v + 1) = v + 1 := by unfold wrap64; omega
   have w2 : wrap64 (v + 1 + 1) = v + 2 := by unfold wrap64; omega
   have s1 : ∀ y z : S52, (P ++ y :: R).set i z = P ++ z :: R := by
    intro y z
    rw [List.set_append_right _ _ (by omega), hP, Nat.sub_self]
    rfl
   have r1 : ∀ y : S52, rd_T52 (P ++ y :: R) (i : Int) = y := by
    intro y
    unfold rd_T52
    rw [Int.toNat_natCast, List.getD_eq_getElem?_getD, ← hP]
    simp
   simp only [laws_markDiagonalS.l0, Int.toNat_natCast, Option.bind_some, s1, r1, w1, w2]
   rw [if_pos (by rw [List.length_append, List.length_cons]; omega), if_pos (by omega), wrap_succ i (by omega)]
   have h := ih (i + 1) k (P ++ [⟨v, v + 1⟩]) R v0 (v + 2) (by rw [List.length_append, List.length_singleton]; omega) (by omega) (by omega) h00 h01 (by omega) (by omega)
   rw [iota52]
   simpa using h
theorem mark52_any (l : List S52) (hl : l.length ≤ 1048576) (v : Int) (h0 : 0 ≤ v) (h1 : v ≤ 100000000) (k : Nat) (hk : l.length < k) : laws_markDiagonalS.f k l v = some (v + 2 * (l.length : Int), iota52 v l.length) := by
 have h := mark52_rounds l hl l.length 0 k [] l v v rfl rfl (by omega) h0 h1 (by omega) hk
 unfold laws_markDiagonalS.f
 simpa using h
theorem mark52_tells (l : List S52) (hl : l.length ≤ 1048576) (k : Nat) (hk : l.length < k) : laws_markDiagonalS.f k l 1 = some (1 + 2 * (l.length : Int), iota52 1 l.length) :=
 mark52_any l hl 1 (by omega) (by omega) k hk

theorem eqO52_rounds (l : List S52) (hl : l.length ≤ 4611686018427387904) (d : Nat) : ∀ (i k : Nat), i + d = l.length → d < k → laws_eqDiagonalS.l0 k l l (i : Int) = some true := by
 induction d with
 | zero =>
  intro i k hi hk
  obtain ⟨k, rfl⟩ : ∃ m, k = m + 1 := ⟨k - 1, by omega⟩
  simp only [laws_eqDiagonalS.l0]
  rw [if_neg (by omega)]
 | succ d ih =>
  intro i k hi hk
  obtain ⟨k, rfl⟩ : ∃ m, k = m + 1 := ⟨k - 1, by omega⟩
  simp only [laws_eqDiagonalS.l0, laws_eqDiagonal.f, if_true, Option.bind_some]
  rw [if_pos (by omega), if_pos (by omega), if_pos (by omega), wrap_succ i (by omega)]
  exact ih (i + 1) k (by omega) (by omega)
theorem eqO52_tells (l : List S52) (hl : l.length ≤ 1048576) (k : Nat) (hk : l.length < k) : laws_eqDiagonalS.f k l l = some true := by
 unfold laws_eqDiagonalS.f
 rw [if_pos rfl]
 exact eqO52_rounds l (by omega) l.length 0 k (by omega) (by omega)

theorem bind_of {α β : Type} {o : Option α} {f : α → Option β} {v : α} (h : o = some v) : o.bind f = f v := by rw [h]; rfl
theorem getD_mem' (l : List (List S52)) (i : Nat) (h : i < l.length) : l.getD i [] ∈ l := by
 rw [List.getD_eq_getElem?_getD, List.getElem?_eq_getElem h]
 exact List.getElem_mem h
theorem eqSS_rounds (l : List (List S52)) (hl : l.length ≤ 300000) (hb : ∀ x ∈ l, x.length ≤ 100) (d : Nat) : ∀ (i k : Nat), i + d = l.length → d + 200 < k → laws_eqDiagonalSS.l0 k l l (i : Int) = some true := by
 induction d with
 | zero =>
  intro i k hi hk
  obtain ⟨k, rfl⟩ : ∃ m, k = m + 1 := ⟨k - 1, by omega⟩
  simp only [laws_eqDiagonalSS.l0]
  rw [if_neg (by omega)]
 | succ d ih =>
  intro i k hi hk
  obtain ⟨k, rfl⟩ : ∃ m, k = m + 1 := ⟨k - 1, by omega⟩
  have hx := hb _ (getD_mem' l i (by omega))
  have h1 : laws_eqDiagonalS.f k (l.getD i []) (l.getD i []) = some true := by
   unfold laws_eqDiagonalS.f
   rw [if_pos rfl]
   exact eqO52_rounds _ (by omega) _ 0 k (Nat.zero_add _) (by omega)
  simp only [laws_eqDiagonalSS.l0]
  rw [if_pos (by omega), if_pos (by omega), if_pos (by omega), wrap_succ i (by omega)]
  refine (bind_of h1).trans ?_
  rw [if_pos rfl]
  exact ih (i + 1) k (by omega) (by omega)
theorem eqSS_tells (l : List (List S52)) (hl : l.length ≤ 300000) (hb : ∀ x ∈ l, x.length ≤ 100) (k : Nat) (hk : l.length + 200 < k) : laws_eqDiagonalSS.f k l l = some true := by
 unfold laws_eqDiagonalSS.f
 rw [if_pos rfl]
 exact eqSS_rounds l hl hb l.length 0 k (Nat.zero_add _) hk
def sumL : List Nat → Int
 | [] => 0
 | m :: ms => 2 * (m : Int) + sumL ms
def iotaSS : Int → List Nat → List (List S52)
 | _, [] => []
 | v, m :: ms => iota52 v m :: iotaSS (v + 2 * (m : Int)) ms
theorem sumL_ge : ∀ ms : List Nat, 0 ≤ sumL ms
 | [] => Int.le_refl _
 | m :: ms => by
  have := sumL_ge ms
  unfold sumL
  omega
theorem iotaSS_len : ∀ (ms : List Nat) (v : Int), (iotaSS v ms).length = ms.length
 | [], _ => rfl
 | m :: ms, v => by rw [iotaSS, List.length_cons, List.length_cons, iotaSS_len ms]
theorem markSS_rounds (L : Nat) (hL : L ≤ 300000) (R : List (List S52)) : ∀ (k : Nat) (P : List (List S52)) (v : Int), (∀ x ∈ R, x.length ≤ 100) → P.length + R.length = L → 0 ≤ v → v + 200 * (R.length : Int) ≤ 80000000 → R.length + 200 < k →
  laws_markDiagonalSS.l0 k (P ++ R) v (P.length : Int) = some (v + sumL (R.map List.length), P ++ iotaSS v (R.map List.length)) := by
 induction R with
 | nil =>
  intro k P v hb hP h0 h1 hk
  obtain ⟨k, rfl⟩ : ∃ q, k = q + 1 := ⟨k - 1, by omega⟩
  simp only [laws_markDiagonalSS.l0, List.append_nil, List.map_nil, iotaSS, sumL]
  rw [if_neg (by omega), Int.add_zero]
 | cons x R ih =>
  intro k P v hb hP h0 h1 hk
  obtain ⟨k, rfl⟩ : ∃ q, k = q + 1 := ⟨k - 1, by omega⟩
  rw [List.length_cons] at hP h1 hk
  have hx := hb x (by simp)
  have g1 : (P ++ x :: R).getD P.length [] = x := by
   rw [List.getD_eq_getElem?_getD]
   simp
  have s1 : ∀ z, (P ++ x :: R).set P.length z = P ++ z :: R := by
   intro z
   rw [List.set_append_right _ _ (Nat.le_refl _), Nat.sub_self]
   rfl
  have hm := mark52_any x (by omega) v h0 (by omega) k (by omega)
  have h := ih k (P ++ [iota52 v x.length]) (v + 2 * (x.length : Int)) (fun y hy => hb y (by simp [hy])) (by rw [List.length_append, List.length_singleton]; omega) (by omega) (by omega) (by omega)
  rw [List.length_append, List.length_singleton, List.append_assoc, List.append_assoc] at h
  simp only [laws_markDiagonalSS.l0]
  rw [if_pos (by rw [List.length_append, List.length_cons]; omega), if_pos (by omega), Int.toNat_natCast, g1]
  refine (bind_of hm).trans ?_
  simp only [s1]
  rw [wrap_succ P.length (by omega)]
  simp only [List.map_cons, iotaSS, sumL]
  rw [← Int.add_assoc]
  exact h
theorem markSS_tells (l : List (List S52)) (hl : l.length ≤ 300000) (hb : ∀ x ∈ l, x.length ≤ 100) (k : Nat) (hk : l.length + 200 < k) : laws_markDiagonalSS.f k l 1 = some (1 + sumL (l.map List.length), iotaSS 1 (l.map List.length)) :=
 markSS_rounds l.length hl l k [] 1 hb (by simp) (by omega) (by omega) hk
theorem heldV_rounds (L : Nat) (hl : L ≤ 100) (v0 : Int) (h0 : 0 ≤ v0) (h1 : v0 ≤ 100000000) (e : Nat) : ∀ (i k : Nat) (P : List S52) (v : Int), P.length = i → i + e = L → v = v0 + 2 * (i : Int) → e < k →
  laws_heldDiagonalS.l0 k (P ++ iota52 v e) v (i : Int) = some (v0 + 2 * (L : Int)) := by
 induction e with
 | zero =>
  intro i k P v hP hi hv hk
  obtain ⟨k, rfl⟩ : ∃ q, k = q + 1 := ⟨k - 1, by omega⟩
  simp only [laws_heldDiagonalS.l0, iota52, List.append_nil]
  rw [if_neg (by omega), hv, show i = L by omega]
 | succ e ih =>
  intro i k P v hP hi hv hk
  obtain ⟨k, rfl⟩ : ∃ q, k = q + 1 := ⟨k - 1, by omega⟩
  have w1 : wrap64 (v + 1) = v + 1 := by unfold wrap64; omega
  have w2 : wrap64 (v + 1 + 1) = v + 2 := by unfold wrap64; omega
  have r1 : rd_T52 (P ++ iota52 v (e + 1)) (i : Int) = ⟨v, v + 1⟩ := by
   unfold rd_T52
   rw [Int.toNat_natCast, List.getD_eq_getElem?_getD, ← hP, iota52]
   simp
  simp only [laws_heldDiagonalS.l0, r1, w1, w2, if_true]
  rw [if_pos (by rw [List.length_append, iota52_len]; omega), if_pos (by omega), wrap_succ i (by omega)]
  have h := ih (i + 1) k (P ++ [⟨v, v + 1⟩]) (v + 2) (by rw [List.length_append, List.length_singleton]; omega) (by omega) (by omega) (by omega)
  rw [iota52]
  simpa using h
theorem heldSS_rounds (L : Nat) (hL : L ≤ 300000) (ms : List Nat) : ∀ (k : Nat) (P : List (List S52)) (v : Int), (∀ x ∈ ms, x ≤ 100) → P.length + ms.length = L → 0 ≤ v → v + 200 * (ms.length : Int) ≤ 80000000 → ms.length + 200 < k →
  laws_heldDiagonalSS.l0 k (P ++ iotaSS v ms) v (P.length : Int) = some (v + sumL ms) := by
 induction ms with
 | nil =>
  intro k P v hb hP h0 h1 hk
  obtain ⟨k, rfl⟩ : ∃ q, k = q + 1 := ⟨k - 1, by omega⟩
  simp only [laws_heldDiagonalSS.l0, List.append_nil, iotaSS, sumL]
  rw [if_neg (by omega), Int.add_zero]
 | cons m ms ih =>
  intro k P v hb hP h0 h1 hk
  obtain ⟨k, rfl⟩ : ∃ q, k = q + 1 := ⟨k - 1, by omega⟩
  rw [List.length_cons] at hP h1 hk
  have hx := hb m (by simp)
  have g1 : (P ++ iota52 v m :: iotaSS (v + 2 * (m : Int)) ms).getD P.length [] = iota52 v m := by
   rw [List.getD_eq_getElem?_getD]
   simp
  have hm : laws_heldDiagonalS.f k ((P ++ iota52 v m :: iotaSS (v + 2 * (m : Int)) ms).getD P.length []) v = some (v + 2 * (m : Int)) := by
   rw [g1]
   exact heldV_rounds m hx v h0 (by omega) m 0 k [] v rfl (by omega) (by omega) (by omega)
  have h := ih k (P ++ [iota52 v m]) (v + 2 * (m : Int)) (fun y hy => hb y (by simp [hy])) (by rw [List.length_append, List.length_singleton]; omega) (by omega) (by omega) (by omega)
  rw [List.length_append, List.length_singleton, List.append_assoc] at h
  have c1 : (P.length : Int) < ((P ++ iota52 v m :: iotaSS (v + 2 * (m : Int)) ms).length : Int) := by rw [List.length_append, List.length_cons]; omega
  have c2 : 0 ≤ (P.length : Int) := by omega
  rw [show iotaSS v (m :: ms) = iota52 v m :: iotaSS (v + 2 * (m : Int)) ms from rfl]
  simp only [laws_heldDiagonalSS.l0]
  rw [if_pos c1, if_pos c2]
  refine (bind_of hm).trans ?_
  rw [if_neg (by omega), wrap_succ P.length (by omega)]
  simp only [sumL]
  rw [← Int.add_assoc]
  exact h
theorem heldSS_tells (l : List (List S52)) (hl : l.length ≤ 300000) (hb : ∀ x ∈ l, x.length ≤ 100) (k : Nat) (hk : l.length + 200 < k) : laws_heldDiagonalSS.f k (iotaSS 1 (l.map List.length)) 1 = some (1 + sumL (l.map List.length)) := by
 have h := heldSS_rounds l.length hl (l.map List.length) k [] 1 (fun x hx => by obtain ⟨y, hy, rfl⟩ := List.mem_map.1 hx; exact hb y hy) (by simp) (by omega) (by rw [List.length_map]; omega) (by rw [List.length_map]; omega)
 exact h

theorem tris_few (n : Int) (hn : 3 ≤ n ∧ n ≤ 8) : (trisOf n).length ≤ 300000 := by
 have : n = 3 ∨ n = 4 ∨ n = 5 ∨ n = 6 ∨ n = 7 ∨ n = 8 := by omega
 rcases this with rfl | rfl | rfl | rfl | rfl | rfl <;> exact Nat.le_of_ble_eq_true (by kernel_rfl)
/-- What both return. -/
theorem both (n : Int) : ∃ (K : Nat) (r : List (List DG)) (ok : Bool), (r.length ≤ 300000 ∧ ∀ x ∈ r, x.length ≤ 100) ∧ ∀ k, K ≤ k → spec_AllClasses.f k n = some (r, ok) ∧ impl_AllClasses.f k n = some (r, ok) := by
 by_cases hn : 3 ≤ n ∧ n ≤ 8
 ·obtain ⟨r, h1, h2, h⟩ := classes_both n hn (fun k => impl_AllClasses.keep k n) (fun k x y h1 h2 h3 => by
   unfold impl_AllClasses.keep
   rw [h1, Option.bind_some, equal_is _ x (by omega) k (by omega)])
  have h3 := tris_few n hn
  have h4 := tris_small n hn
  refine ⟨20400, r, true, ⟨by omega, fun x hx => by have := tris_len n x (h2 x hx); omega⟩, fun k hk => ?_⟩
  have h1 := h k hk
  simp only [spec_AllClasses.f, impl_AllClasses.f, spec_caFew.f, impl_isListedPolygon.f, l1In_tells, within_tells, decide_eq_true hn, Option.bind_some, if_true, allTri_tells n hn k (by omega), if_pos h4, h1.1, h1.2]
  exact ⟨trivial, trivial⟩
 ·refine ⟨0, [], false, ⟨by simp, fun x hx => by cases hx⟩, fun k hk => ?_⟩
  simp [spec_AllClasses.f, impl_AllClasses.f, spec_caFew.f, impl_isListedPolygon.f, l1In_tells, within_tells, hn]

theorem FnExactAllClasses (n : Int) (_ : (Lit.int .i64 n).wf = true) :
  ∃ k, laws_FnExactAllClasses.f k n = some true := by
 obtain ⟨K1, r, ok, ⟨hrl, hrb⟩, hb⟩ := both n
 obtain ⟨M, hM⟩ : ∃ M, M = K1 + (r.length + 10000) := ⟨_, rfl⟩
 have b1 : ∀ j, spec_AllClasses.f (M + j) n = some (r, ok) := fun j => (hb (M + j) (by omega)).1
 have b2 : ∀ j, impl_AllClasses.f (M + j) n = some (r, ok) := fun j => (hb (M + j) (by omega)).2
 have er : ∀ j, laws_eqDiagonalSS.f (M + j) r r = some true := fun j => eqSS_tells r hrl hrb (M + j) (by omega)
 have mr : ∀ j, laws_markDiagonalSS.f (M + j) r 1 = _ := fun j => markSS_tells r hrl hrb (M + j) (by omega)
 have hd : ∀ j, laws_heldDiagonalSS.f (M + j) (iotaSS 1 (r.map List.length)) 1 = _ := fun j => heldSS_tells r hrl hrb (M + j) (by omega)
 have hsum := sumL_ge (r.map List.length)
 have j1 : laws_FnExactAllClasses.j1 (M + 2) (iotaSS 1 (r.map List.length)) (1 + sumL (r.map List.length)) false = some true := by
  simp only [laws_FnExactAllClasses.j1, hd, Option.bind_some, Bool.false_eq_true, if_false, if_true]
  rw [if_neg (by omega)]
 have j0 : laws_FnExactAllClasses.j0 (M + 3) n r ok r false = some true := by
  simp only [laws_FnExactAllClasses.j0, mr, hd, b2, er, Option.bind_some, Bool.false_eq_true, if_false, if_true]
  rw [if_neg (by omega), bne_self_eq_false]
  exact j1
 refine ⟨M + 3, ?_⟩
 simp only [laws_FnExactAllClasses.f, b1, b2, er, Option.bind_some, if_true]
 rw [bne_self_eq_false]
 exact j0

end Go.Proofs.Ytgblginphicacaa.PureFnExactAllClasses
