/- The program's RankOfQuiddity and the reference's return the same for every list of numbers that the statement lets in: both ask whether the list is a quiddity of a polygon with at most eight corners; the place of a list in the rising list of all quiddities is the number of lesser ones. No condition. -/
import Derived.Test.YtgblginphicacaaPFnExactRankOfQuiddityx0
import Derived.Test.YtgblginphicacaaPFnExactRankOfQuiddityx1
import Derived.Test.YtgblginphicacaaPFnExactRankOfQuiddityx10
import Derived.Test.YtgblginphicacaaPFnExactRankOfQuiddityx11
import Derived.Test.YtgblginphicacaaPFnExactRankOfQuiddityx12
import Derived.Test.YtgblginphicacaaPFnExactRankOfQuiddityx13
import Derived.Test.YtgblginphicacaaPFnExactRankOfQuiddityx14
import Derived.Test.YtgblginphicacaaPFnExactRankOfQuiddityx15
import Derived.Test.YtgblginphicacaaPFnExactRankOfQuiddityx16
import Derived.Test.YtgblginphicacaaPFnExactRankOfQuiddityx2
import Derived.Test.YtgblginphicacaaPFnExactRankOfQuiddityx3
import Derived.Test.YtgblginphicacaaPFnExactRankOfQuiddityx4
import Derived.Test.YtgblginphicacaaPFnExactRankOfQuiddityx5
import Derived.Test.YtgblginphicacaaPFnExactRankOfQuiddityx6
import Derived.Test.YtgblginphicacaaPFnExactRankOfQuiddityx7
import Derived.Test.YtgblginphicacaaPFnExactRankOfQuiddityx8
import Derived.Test.YtgblginphicacaaPFnExactRankOfQuiddityx9
set_option linter.unusedSimpArgs false
set_option linter.unnecessarySimpa false
set_option linter.unusedVariables false
namespace Go.Proofs.Ytgblginphicacaa.PureFnExactRankOfQuiddity
open Go.RowKit Go.Proofs.Ytgblginphicacaa.PFnExactRankOfQuiddity Go.Proofs.YtgblginphicacaaW.PrintWords Go.Proofs.YtgblginphicacaaW.PrintLast

theorem Ev.all {α β : Type} {g : α → Nat → Option β} {r : α → β} (l : List α) (h : ∀ x, x ∈ l → Ev (g x) (r x)) : ∃ K, ∀ x, x ∈ l → ∀ k, K ≤ k → g x k = some (r x) := by
 induction l with
 | nil => exact ⟨0, fun x hx => by cases hx⟩
 | cons y l ih =>
  obtain ⟨K, hK⟩ := ih (fun x hx => h x (List.mem_cons_of_mem _ hx))
  obtain ⟨K2, hK2⟩ := h y (List.mem_cons_self ..)
  refine ⟨K + K2, fun x hx k hk => ?_⟩
  rcases List.mem_cons.1 hx with e | e
  ·subst e
   exact hK2 k (by omega)
  ·exact hK x e k (by omega)

theorem take_set_succ {α : Type} (l : List α) (i : Nat) (v : α) (h : i < l.length) : (l.set i v).take (i + 1) = l.take i ++ [v] := by
 rw [List.take_succ_eq_append_getElem (by rw [List.length_set]; exact h), List.getElem_set_self, List.take_set_of_le (Nat.le_refl i)]
theorem getD_drop {α : Type} (l : List α) (d : α) (i : Nat) (h : i < l.length) : l.drop i = l.getD i d :: l.drop (i + 1) := by
 rw [List.drop_eq_getElem_cons h, List.getD_eq_getElem?_getD, List.getElem?_eq_getElem h]
 rfl
theorem wrap_succ (i : Nat) (h : i < 4611686018427387904) : wrap64 ((i : Int) + 1) = ((i + 1 : Nat) : Int) := by unfold wrap64; omega
theorem wrap_pred (i : Nat) (h0 : 0 < i) (h : i < 4611686018427387904) : wrap64 ((i : Int) - 1) = ((i - 1 : Nat) : Int) := by unfold wrap64; omega

theorem l1In_tells (a b c : Int) : spec_l1In.f a b c = some (decide (b ≤ a ∧ a ≤ c)) := by
 unfold spec_l1In.f
 by_cases h : a ≥ b
 ·rw [if_pos h]
  have : b ≤ a := h
  simp [this]
 ·rw [if_neg h]
  have : ¬ b ≤ a := h
  simp [this]

theorem within_tells (a b c : Int) : impl_within.f a b c = some (decide (b ≤ a ∧ a ≤ c)) := by
 unfold impl_within.f
 by_cases h : a ≥ b
 ·rw [if_pos h]
  have : b ≤ a := h
  simp [this]
 ·rw [if_neg h]
  have : ¬ b ≤ a := h
  simp [this]

abbrev DG := S52
abbrev rD (l : List DG) (j : Nat) : DG := rd_T52 l (j : Int)
def crossB (a b c d : Int) : Bool := decide (a < c ∧ c < b ∧ b < d) || decide (c < a ∧ a < d ∧ d < b)
def diagB (n a b : Int) : Bool := decide (0 ≤ a ∧ b ≤ n - 1 ∧ b - a ≥ 2 ∧ b - a ≤ n - 2)
def lessB (a b c d : Int) : Bool := decide (a < c ∨ (a = c ∧ b < d))
def stepD (n : Int) (l : List DG) (j : Nat) : Bool :=
 diagB n (rD l j).f0 (rD l j).f1 && ((j == 0 || lessB (rD l (j - 1)).f0 (rD l (j - 1)).f1 (rD l j).f0 (rD l j).f1) && !(l.take j).any fun e => crossB (rD l j).f0 (rD l j).f1 e.f0 e.f1)
theorem stepD_def (n : Int) (l : List DG) (j : Nat) : stepD n l j = (diagB n (rD l j).f0 (rD l j).f1 && ((j == 0 || lessB (rD l (j - 1)).f0 (rD l (j - 1)).f1 (rD l j).f0 (rD l j).f1) && !(l.take j).any fun e => crossB (rD l j).f0 (rD l j).f1 e.f0 e.f1)) := rfl
def goodD (n : Int) (l : List DG) : Bool := (List.range' 0 l.length).all (stepD n l)

theorem rD_drop (l : List DG) (i : Nat) (h : i < l.length) : l.drop i = rD l i :: l.drop (i + 1) := by
 rw [getD_drop l z52 i h]
 unfold rD rd_T52
 rw [Int.toNat_natCast]
theorem any_take_step (p : DG → Bool) (l : List DG) (i : Nat) (h : i < l.length) : (l.drop i).any p = (p (rD l i) || (l.drop (i + 1)).any p) := by
 rw [rD_drop l i h, List.any_cons]

theorem poLess_tells (a b c d : Int) : spec_poLess.f a b c d = some (lessB a b c d) := by
 unfold spec_poLess.f lessB
 repeat' split
 all_goals congr 1; rw [Bool.eq_iff_iff]; simp only [decide_eq_true_eq, Bool.false_eq_true, false_iff, true_iff]; omega
theorem poIs_tells (n : Int) : spec_poIs.f n = some (decide (3 ≤ n ∧ n ≤ 12)) := by
 unfold spec_poIs.f
 rw [l1In_tells]
 rfl
theorem doCross_tells (a b c d : Int) : impl_doCross.f a b c d = some (crossB a b c d) := by
 unfold impl_doCross.f crossB
 repeat' split
 all_goals congr 1; rw [Bool.eq_iff_iff]; simp only [Bool.or_eq_true, decide_eq_true_eq, Bool.false_eq_true, false_iff, true_iff]; omega
theorem isPolygon_tells (n : Int) : impl_isPolygon.f n = some (decide (3 ≤ n ∧ n ≤ 12)) := by
 unfold impl_isPolygon.f
 rw [within_tells]
 rfl
theorem isDiagonal_tells (n a b : Int) (h : 3 ≤ n ∧ n ≤ 12) : impl_isDiagonal.f n a b = some (diagB n a b) := by
 unfold impl_isDiagonal.f diagB
 rw [within_tells, within_tells]
 have w : wrap64 (n - 1) = n - 1 := by unfold wrap64; omega
 simp only [Option.bind_some, w, decide_eq_true_eq]
 by_cases h0 : 0 ≤ a ∧ a ≤ n - 1
 ·by_cases h1 : 0 ≤ b ∧ b ≤ n - 1
  ·have w3 : wrap64 (b - a) = b - a := by unfold wrap64; omega
   rw [if_pos h0, if_pos h1, w3]
   repeat' split
   all_goals congr 1; rw [Bool.eq_iff_iff]; simp only [decide_eq_true_eq, Bool.false_eq_true, false_iff, Bool.not_eq_true', beq_eq_false_iff_ne, ne_eq, Bool.not_false, true_iff]; omega
  ·rw [if_pos h0, if_neg h1]
   congr 1; rw [Bool.eq_iff_iff]; simp only [decide_eq_true_eq, Bool.false_eq_true, false_iff]; omega
 ·rw [if_neg h0]
  congr 1; rw [Bool.eq_iff_iff]; simp only [decide_eq_true_eq, Bool.false_eq_true, false_iff]; omega
def cmpI (a c : Int) : Int := if a < c then -1 else if a > c then 1 else 0
def cmpD (a b c d : Int) : Int := if a = c then cmpI b d else cmpI a c
theorem compare_tells (a c : Int) : cmp_Compare_int.f a c = some (cmpI a c) := by
 unfold cmp_Compare_int.f cmp_isNaN_int.f cmpI
 have h0 : (a != a) = false := by simp
 have h1 : (c != c) = false := by simp
 rw [h0, h1]
 simp only [Option.bind_some, Bool.false_eq_true, if_false]
 repeat' split
 all_goals rfl
theorem compareDiagonals_tells (a b c d : Int) (k : Nat) (hk : 3 ≤ k) : impl_compareDiagonals.f k a b c d = some (cmpD a b c d) := by
 obtain ⟨k, rfl⟩ : ∃ q, k = q + 3 := ⟨k - 3, by omega⟩
 unfold impl_compareDiagonals.f cmp_Or_int.f
 rw [compare_tells, compare_tells]
 simp only [Option.bind_some, List.length_cons, List.length_nil]
 have r0 : rd [cmpI a c, cmpI b d] 0 = cmpI a c := rfl
 have r1 : rd [cmpI a c, cmpI b d] 1 = cmpI b d := rfl
 have w0 : wrap64 (0 + 1) = 1 := by unfold wrap64; omega
 have w1 : wrap64 (1 + 1) = 2 := by unfold wrap64; omega
 simp only [cmp_Or_int.l0, w0, w1, r0, r1]
 unfold cmpD
 by_cases e : a = c
 ·have z : cmpI a c = 0 := by unfold cmpI; rw [if_neg (by omega), if_neg (by omega)]
  rw [if_pos e, z]
  by_cases z2 : cmpI b d = 0
  ·simp [z2]
  ·simp [z2]
 ·have z : ¬ cmpI a c = 0 := by
   unfold cmpI
   split
   ·omega
   ·split <;> omega
  rw [if_neg e]
  simp [z]
theorem cmpD_nonneg (a b c d : Int) : cmpD a b c d ≥ 0 ↔ lessB a b c d = false := by
 unfold cmpD cmpI lessB
 rw [decide_eq_false_iff_not]
 repeat' split
 all_goals omega

def A1 (n : Int) (a : Nat) (b e : Nat) : List DG := ((List.range' b e).filter fun (b : Nat) => diagB n a b).map fun (b : Nat) => ⟨(a : Int), (b : Int)⟩
def A0 (n : Int) (N : Nat) (a e : Nat) : List DG := (List.range' a e).flatMap fun (a : Nat) => A1 n a (a + 1) (N - (a + 1))
theorem A1_len (n : Int) (a b e : Nat) : (A1 n a b e).length ≤ e := by
 unfold A1
 rw [List.length_map]
 exact Nat.le_trans (List.length_filter_le ..) (by rw [List.length_range']; exact Nat.le_refl _)
theorem all_l1 (n : Int) (N : Nat) (hN : (N : Int) = n) (hn : 3 ≤ n ∧ n ≤ 12) (a : Nat) (r : Option (List DG)) (e : Nat) :
  ∀ (b : Nat) (acc : List DG) (K : Nat), b + e = N → acc.length + e ≤ 4000 → (∀ q, K ≤ q → impl_allDiagonals.l0 q n (acc ++ A1 n a b e) n (wrap64 ((a : Int) + 1)) = r) →
  ∀ q, K + e < q → impl_allDiagonals.l1 q n acc (a : Int) (b : Int) n (a : Int) = r := by
 induction e with
 | zero =>
  intro b acc K he hacc h q hq
  obtain ⟨q, rfl⟩ : ∃ z, q = z + 1 := ⟨q - 1, by omega⟩
  simp only [impl_allDiagonals.l1]
  rw [if_neg (by omega)]
  have := h q (by omega)
  simpa [A1] using this
 | succ e ih =>
  intro b acc K he hacc h q hq
  obtain ⟨q, rfl⟩ : ∃ z, q = z + 1 := ⟨q - 1, by omega⟩
  have hlt : acc.length < 8796093022208 := by omega
  have hA : A1 n a b (e + 1) = (if diagB n a b = true then [(⟨(a : Int), (b : Int)⟩ : DG)] else []) ++ A1 n a (b + 1) e := by
   unfold A1
   rw [List.range'_succ, List.filter_cons]
   split <;> rfl
  simp only [impl_allDiagonals.l1]
  rw [if_pos (by omega), isDiagonal_tells n _ _ hn, Option.bind_some, wrap_succ b (by omega)]
  cases hd : diagB n a b with
  | false =>
   rw [if_neg (by simp)]
   refine ih (b + 1) acc K (by omega) (by omega) ?_ q (by omega)
   intro q' hq'
   have := h q' hq'
   rw [hA, hd, if_neg (by simp), List.nil_append] at this
   exact this
  | true =>
   rw [if_pos rfl, if_pos hlt]
   refine ih (b + 1) _ K (by omega) (by rw [List.length_append, List.length_singleton]; omega) ?_ q (by omega)
   intro q' hq'
   have := h q' hq'
   rw [hA, hd] at this
   simpa using this
theorem all_l0 (n : Int) (N : Nat) (hN : (N : Int) = n) (hn : 3 ≤ n ∧ n ≤ 12) (e : Nat) :
  ∀ (a : Nat) (acc : List DG), a + e = N → acc.length + 12 * e ≤ 3000 → ∀ q, 20 * e < q → impl_allDiagonals.l0 q n acc n (a : Int) = some (acc ++ A0 n N a e) := by
 induction e with
 | zero =>
  intro a acc he hacc q hq
  obtain ⟨q, rfl⟩ : ∃ z, q = z + 1 := ⟨q - 1, by omega⟩
  simp only [impl_allDiagonals.l0]
  rw [if_neg (by omega)]
  have e0 : A0 n N a 0 = [] := rfl
  rw [e0, List.append_nil]
 | succ e ih =>
  intro a acc he hacc q hq
  obtain ⟨q, rfl⟩ : ∃ z, q = z + 1 := ⟨q - 1, by omega⟩
  have hA : A0 n N a (e + 1) = A1 n a (a + 1) (N - (a + 1)) ++ A0 n N (a + 1) e := by
   unfold A0
   rw [List.range'_succ, List.flatMap_cons]
  have hlen := A1_len n a (a + 1) (N - (a + 1))
  rw [hA, ← List.append_assoc]
  simp only [impl_allDiagonals.l0]
  rw [if_pos (by omega), wrap_succ a (by omega)]
  refine all_l1 n N hN hn a _ (N - (a + 1)) (a + 1) acc (20 * e + 1) (by omega) (by omega) ?_ q (by omega)
  intro q' hq'
  rw [wrap_succ a (by omega)]
  exact ih (a + 1) _ (by omega) (by rw [List.length_append]; omega) q' (by omega)
theorem allDiagonals_tells (n : Int) (hn : 3 ≤ n ∧ n ≤ 12) (k : Nat) (hk : 300 < k) : impl_allDiagonals.f k n = some (A0 n n.toNat 0 n.toNat) := by
 have h := all_l0 n n.toNat (by omega) hn n.toNat 0 [] (by omega) (by simp; omega) k (by omega)
 rw [show ((0 : Nat) : Int) = 0 from rfl, List.nil_append] at h
 exact h

theorem lookL_mem (m : Int) : ∀ (r b : List DG), ∀ x ∈ lookL m r b, (x.length : Int) = m
 | [], _ => fun x hx => by cases hx
 | d :: r, b => fun x hx => by
  rw [lookL_cons] at hx
  rcases List.mem_append.1 hx with h | h
  ·split at h
   ·cases h
   ·unfold lookT at h
    split at h
    ·rw [List.mem_singleton.1 h]
     assumption
    ·exact lookL_mem m r _ x h
  ·exact lookL_mem m r b x h
theorem tris_len (n : Int) : ∀ x ∈ trisOf n, (x.length : Int) = n - 3 := by
 intro x hx
 unfold trisOf lookT at hx
 split at hx
 ·rename_i h
  rw [List.mem_singleton.1 hx]
  exact h
 ·exact lookL_mem _ _ _ x hx
theorem poAll_tells (n : Int) (hn : 3 ≤ n ∧ n ≤ 8) : spec_poAll.f n = some (trisOf n) := by
 unfold spec_poAll.f
 rw [if_pos hn]
theorem A0_diags (n : Int) (hn : 3 ≤ n ∧ n ≤ 8) : A0 n n.toNat 0 n.toNat = diagsOf n := by
 have : n = 3 ∨ n = 4 ∨ n = 5 ∨ n = 6 ∨ n = 7 ∨ n = 8 := by omega
 rcases this with rfl | rfl | rfl | rfl | rfl | rfl <;> rfl
theorem allTri_tells (n : Int) (hn : 3 ≤ n ∧ n ≤ 8) (k : Nat) (hk : 300 < k) : impl_allTriangulations.f k n = some (trisOf n) := by
 unfold impl_allTriangulations.f
 rw [allDiagonals_tells n (by omega) k hk, Option.bind_some, A0_diags n hn, if_pos ⟨hn.1, hn.2, diagsOf_le n hn⟩]
 rfl
def isTriB (n : Int) (l : List DG) : Bool := decide (3 ≤ n ∧ n ≤ 12) && (decide ((l.length : Int) = n - 3) && goodD n l)

theorem cnt_split {α : Type} (p q r : α → Bool) : ∀ l : List α, (∀ x ∈ l, p x = true → q x = true ∨ r x = true) → l.countP p ≤ l.countP q + l.countP r
 | [], _ => by simp
 | x :: l, h => by
  have ih := cnt_split p q r l (fun y hy => h y (List.mem_cons_of_mem _ hy))
  have hx := h x (List.mem_cons_self ..)
  simp only [List.countP_cons]
  cases hp : p x <;> cases hq : q x <;> cases hr : r x <;> simp_all <;> omega
theorem cnt_zero {α : Type} (p : α → Bool) (l : List α) (h : ∀ x ∈ l, p x = false) : l.countP p = 0 := by
 rw [List.countP_eq_zero]
 intro x hx
 simp [h x hx]
theorem last_of (P : Int → Prop) : ∀ (m : Nat) (lo hi : Int), hi - lo ≤ m → lo < hi → P lo → ∃ c, lo ≤ c ∧ c < hi ∧ P c ∧ ∀ c', c < c' → c' < hi → ¬ P c'
 | 0, lo, hi, h, h2, _ => by omega
 | m + 1, lo, hi, h, h2, hP => by
  by_cases hx : ∃ c, lo < c ∧ c < hi ∧ P c
  ·obtain ⟨c, h3, h4, h5⟩ := hx
   obtain ⟨e, h6, h7, h8, h9⟩ := last_of P m c hi (by omega) h4 h5
   exact ⟨e, by omega, h7, h8, h9⟩
  ·exact ⟨lo, by omega, h2, hP, fun c' h3 h4 h5 => hx ⟨c', h3, h4, h5⟩⟩

def hasD (l : List DG) (a b : Int) : Bool := l.any fun d => d.f0 == a && d.f1 == b
theorem hasD_of {l : List DG} {d : DG} (h : d ∈ l) : hasD l d.f0 d.f1 = true := List.any_eq_true.2 ⟨d, h, by simp⟩
theorem hasD_mem {l : List DG} {a b : Int} (h : hasD l a b = true) : ∃ d ∈ l, d.f0 = a ∧ d.f1 = b := by
 obtain ⟨d, h1, h2⟩ := List.any_eq_true.1 h
 simp only [Bool.and_eq_true, beq_iff_eq] at h2
 exact ⟨d, h1, h2⟩
def under (l : List DG) (i j : Int) : Nat := l.countP fun d => decide (i ≤ d.f0 ∧ d.f1 ≤ j)
def inner (l : List DG) (i j : Int) : Nat := l.countP fun d => decide (i ≤ d.f0 ∧ d.f1 ≤ j ∧ ¬ (d.f0 = i ∧ d.f1 = j))

structure Tri (n : Int) (l : List DG) : Prop where
 n3 : 3 ≤ n ∧ n ≤ 12
 len : (l.length : Int) = n - 3
 ok : ∀ d ∈ l, 0 ≤ d.f0 ∧ d.f1 ≤ n - 1 ∧ 2 ≤ d.f1 - d.f0 ∧ d.f1 - d.f0 ≤ n - 2
 nc : ∀ d ∈ l, ∀ e ∈ l, ¬ (d.f0 < e.f0 ∧ e.f0 < d.f1 ∧ d.f1 < e.f1)
 sorted : l.Pairwise fun d e => d.f0 < e.f0 ∨ (d.f0 = e.f0 ∧ d.f1 < e.f1)

theorem cnt_one (a b : Int) : ∀ l : List DG, (l.Pairwise fun d e => d.f0 < e.f0 ∨ (d.f0 = e.f0 ∧ d.f1 < e.f1)) → l.countP (fun d => decide (d.f0 = a ∧ d.f1 = b)) ≤ if hasD l a b = true then 1 else 0
 | [], _ => by simp
 | x :: l, h => by
  obtain ⟨h1, h2⟩ := List.pairwise_cons.1 h
  have ih := cnt_one a b l h2
  simp only [List.countP_cons]
  by_cases hx : x.f0 = a ∧ x.f1 = b
  ·have hz : l.countP (fun d => decide (d.f0 = a ∧ d.f1 = b)) = 0 := by
    apply cnt_zero
    intro y hy
    have := h1 y hy
    rw [decide_eq_false_iff_not]
    omega
   have hh : hasD (x :: l) a b = true := by
    rw [← hx.1, ← hx.2]
    exact hasD_of (List.mem_cons_self ..)
   rw [hz, if_pos hh]
   simp [hx]
  ·have hh : hasD (x :: l) a b = hasD l a b := by
    unfold hasD
    rw [List.any_cons]
    have : (x.f0 == a && x.f1 == b) = false := by
     rw [Bool.eq_false_iff]
     simpa using hx
    rw [this, Bool.false_or]
   rw [hh]
   simp only [hx, decide_false, Bool.false_eq_true, if_false]
   exact ih

theorem Tri.under_inner {n : Int} {l : List DG} (T : Tri n l) (i j : Int) : under l i j ≤ inner l i j + if hasD l i j = true then 1 else 0 := by
 have h1 := cnt_split (fun d : DG => decide (i ≤ d.f0 ∧ d.f1 ≤ j)) (fun d : DG => decide (i ≤ d.f0 ∧ d.f1 ≤ j ∧ ¬ (d.f0 = i ∧ d.f1 = j))) (fun d : DG => decide (d.f0 = i ∧ d.f1 = j)) l (fun x _ h => by
  simp only [decide_eq_true_eq] at h ⊢
  omega)
 have h2 := cnt_one i j l T.sorted
 unfold under inner
 omega

theorem Tri.half {n : Int} {l : List DG} (T : Tri n l) (a b : Int) (h1 : 1 ≤ b - a) (ih : 2 ≤ b - a → (inner l a b : Int) ≤ b - a - 2) :
  (under l a b : Int) ≤ b - a - 1 ∧ ((under l a b : Int) = b - a - 1 → b - a = 1 ∨ (hasD l a b = true ∧ 2 ≤ b - a ∧ (inner l a b : Int) = b - a - 2)) := by
 by_cases h2 : 2 ≤ b - a
 ·have h3 := ih h2
  have h4 := T.under_inner a b
  cases hh : hasD l a b
  ·rw [hh, if_neg (by simp)] at h4
   exact ⟨by omega, fun _ => by omega⟩
  ·rw [hh, if_pos rfl] at h4
   exact ⟨by omega, fun _ => .inr ⟨rfl, h2, by omega⟩⟩
 ·have hz : under l a b = 0 := by
   apply cnt_zero
   intro d hd
   have := T.ok d hd
   rw [decide_eq_false_iff_not]
   omega
  rw [hz]
  exact ⟨by omega, fun _ => .inl (by omega)⟩

theorem Tri.split {n : Int} {l : List DG} (T : Tri n l) (i j : Int) (h : 2 ≤ j - i) :
  ∃ c, i < c ∧ c < j ∧ ∀ d ∈ l, i ≤ d.f0 → d.f1 ≤ j → ¬ (d.f0 = i ∧ d.f1 = j) → d.f1 ≤ c ∨ c ≤ d.f0 := by
 obtain ⟨c, h1, h2, h3, h4⟩ := last_of (fun c => c = i + 1 ∨ hasD l i c = true) (j - (i + 1)).toNat (i + 1) j (by omega) (by omega) (.inl rfl)
 refine ⟨c, by omega, h2, fun d hd h5 h6 h7 => ?_⟩
 by_cases h8 : d.f1 ≤ c
 ·exact .inl h8
 ·by_cases h9 : c ≤ d.f0
  ·exact .inr h9
  ·exfalso
   by_cases e : d.f0 = i
   ·refine h4 d.f1 (by omega) (by omega) (.inr ?_)
    rw [← e]
    exact hasD_of hd
   ·rcases h3 with h3 | h3
    ·omega
    ·obtain ⟨x, hx, hx1, hx2⟩ := hasD_mem h3
     exact T.nc x hx d hd (by omega)

theorem inner_le (l : List DG) (i j c : Int) (h : ∀ d ∈ l, i ≤ d.f0 → d.f1 ≤ j → ¬ (d.f0 = i ∧ d.f1 = j) → d.f1 ≤ c ∨ c ≤ d.f0) : inner l i j ≤ under l i c + under l c j := by
 apply cnt_split
 intro d hd h1
 have h2 := h d hd
 simp only [decide_eq_true_eq] at h1 ⊢
 have h3 := h2 h1.1 h1.2.1 h1.2.2
 omega

theorem Tri.bound {n : Int} {l : List DG} (T : Tri n l) : ∀ (m : Nat) (i j : Int), j - i ≤ m → 2 ≤ j - i → (inner l i j : Int) ≤ j - i - 2
 | 0, i, j, h, h2 => by omega
 | m + 1, i, j, h, h2 => by
  obtain ⟨c, h3, h4, h5⟩ := T.split i j h2
  have h6 := inner_le l i j c h5
  have h7 := (T.half i c (by omega) (fun h => T.bound m i c (by omega) h)).1
  have h8 := (T.half c j (by omega) (fun h => T.bound m c j (by omega) h)).1
  omega

def Full (l : List DG) (i j : Int) : Prop := 2 ≤ j - i ∧ (inner l i j : Int) = j - i - 2

theorem Tri.apex {n : Int} {l : List DG} (T : Tri n l) (i j : Int) (hf : Full l i j) :
  ∃ c, i < c ∧ c < j ∧ (c - i = 1 ∨ (hasD l i c = true ∧ Full l i c)) ∧ (j - c = 1 ∨ (hasD l c j = true ∧ Full l c j)) ∧
   ∀ d ∈ l, i ≤ d.f0 → d.f1 ≤ j → ¬ (d.f0 = i ∧ d.f1 = j) → d.f1 ≤ c ∨ c ≤ d.f0 := by
 obtain ⟨h2, hf⟩ := hf
 obtain ⟨c, h3, h4, h5⟩ := T.split i j h2
 have h6 := inner_le l i j c h5
 obtain ⟨h7, g7⟩ := T.half i c (by omega) (fun h => T.bound (c - i).toNat i c (by omega) h)
 obtain ⟨h8, g8⟩ := T.half c j (by omega) (fun h => T.bound (j - c).toNat c j (by omega) h)
 exact ⟨c, h3, h4, g7 (by omega), g8 (by omega), h5⟩

/-- Two corners are joined: by a side or by a diagonal. -/
def J (n : Int) (l : List DG) (a b : Int) : Prop := b = a + 1 ∨ (a = 0 ∧ b = n - 1) ∨ hasD l a b = true

theorem J.of {n : Int} {l : List DG} {a b : Int} {P : Prop} (h : b - a = 1 ∨ (hasD l a b = true ∧ P)) : J n l a b := by
 rcases h with h | h
 ·exact .inl (by omega)
 ·exact .inr (.inr h.1)

theorem Tri.reach {n : Int} {l : List DG} (T : Tri n l) : ∀ (m : Nat) (i j : Int), j - i ≤ m → Full l i j → 0 ≤ i → j ≤ n - 1 → J n l i j → ∀ d ∈ l, i ≤ d.f0 → d.f1 ≤ j → ¬ (d.f0 = i ∧ d.f1 = j) →
  (∃ c, d.f0 < c ∧ c < d.f1 ∧ J n l d.f0 c ∧ J n l c d.f1) ∧ ∃ o, 0 ≤ o ∧ o ≤ n - 1 ∧ ((o < d.f0 ∧ J n l o d.f0 ∧ J n l o d.f1) ∨ (d.f1 < o ∧ J n l d.f0 o ∧ J n l d.f1 o))
 | 0, i, j, h, hf, _, _, _, d, _, _, _, _ => by have := hf.1; omega
 | m + 1, i, j, h, hf, hi, hj, hJ, d, hd, h1, h2, h3 => by
  obtain ⟨c, c1, c2, c3, c4, c5⟩ := T.apex i j hf
  have hok := T.ok d hd
  rcases c5 d hd h1 h2 h3 with h4 | h4
  ·rcases c3 with c3 | ⟨c3, f3⟩
   ·omega
   ·by_cases e : d.f0 = i ∧ d.f1 = c
    ·obtain ⟨e1, e2⟩ := e
     obtain ⟨x, x1, x2, x3, x4, _⟩ := T.apex i c f3
     rw [e1, e2]
     exact ⟨⟨x, x1, x2, J.of x3, J.of x4⟩, j, by omega, hj, .inr ⟨by omega, hJ, J.of c4⟩⟩
    ·exact T.reach m i c (by omega) f3 hi (by omega) (.inr (.inr c3)) d hd h1 h4 e
  ·rcases c4 with c4 | ⟨c4, f4⟩
   ·omega
   ·by_cases e : d.f0 = c ∧ d.f1 = j
    ·obtain ⟨e1, e2⟩ := e
     obtain ⟨x, x1, x2, x3, x4, _⟩ := T.apex c j f4
     rw [e1, e2]
     exact ⟨⟨x, x1, x2, J.of x3, J.of x4⟩, i, by omega, by omega, .inl ⟨by omega, J.of c3, hJ⟩⟩
    ·exact T.reach m c j (by omega) f4 (by omega) hj (.inr (.inr c4)) d hd h4 h2 e

theorem Tri.jcross {n : Int} {l : List DG} (T : Tri n l) {a b c d : Int} (h1 : J n l a b) (h2 : J n l c d) (ha : 0 ≤ a) (hd : d ≤ n - 1) : ¬ (a < c ∧ c < b ∧ b < d) := by
 intro h
 rcases h1 with h1 | h1 | h1
 ·omega
 ·omega
 ·rcases h2 with h2 | h2 | h2
  ·omega
  ·omega
  ·obtain ⟨x, hx, x1, x2⟩ := hasD_mem h1
   obtain ⟨y, hy, y1, y2⟩ := hasD_mem h2
   exact T.nc x hx y hy (by omega)

/-- The two corners with which the ends of a diagonal are joined: one inside, one outside, and no other. -/
theorem Tri.two {n : Int} {l : List DG} (T : Tri n l) (d : DG) (hd : d ∈ l) : ∃ x o, d.f0 < x ∧ x < d.f1 ∧ 0 ≤ o ∧ o ≤ n - 1 ∧ (o < d.f0 ∨ d.f1 < o) ∧
  (J n l d.f0 x ∧ J n l x d.f1) ∧ (J n l (min o d.f0) (max o d.f0) ∧ J n l (min o d.f1) (max o d.f1)) ∧
  ∀ c, 0 ≤ c → c ≤ n - 1 → c ≠ d.f0 → c ≠ d.f1 → (J n l (min c d.f0) (max c d.f0) ∧ J n l (min c d.f1) (max c d.f1)) → c = x ∨ c = o := by
 have hok := T.ok d hd
 have hn := T.n3
 have hfull : Full l 0 (n - 1) := by
  refine ⟨by omega, ?_⟩
  have : inner l 0 (n - 1) = l.length := by
   unfold inner
   rw [List.countP_eq_length]
   intro e he
   have := T.ok e he
   rw [decide_eq_true_eq]
   omega
  rw [this, T.len]
  omega
 obtain ⟨⟨x, x1, x2, x3, x4⟩, o, o1, o2, o3⟩ := T.reach (n - 1).toNat 0 (n - 1) (by omega) hfull (by omega) (by omega) (.inr (.inl ⟨rfl, rfl⟩)) d hd (by omega) (by omega) (by omega)
 refine ⟨x, o, x1, x2, o1, o2, by omega, ⟨x3, x4⟩, ?_, ?_⟩
 ·rcases o3 with ⟨h, h5, h6⟩ | ⟨h, h5, h6⟩
  ·rw [Int.min_eq_left (by omega), Int.max_eq_right (by omega), Int.min_eq_left (by omega), Int.max_eq_right (by omega)]
   exact ⟨h5, h6⟩
  ·rw [Int.min_eq_right (by omega), Int.max_eq_left (by omega), Int.min_eq_right (by omega), Int.max_eq_left (by omega)]
   exact ⟨h5, h6⟩
 ·intro c c1 c2 c3 c4 ⟨j1, j2⟩
  by_cases hx : c = x
  ·exact .inl hx
  ·by_cases ho : c = o
   ·exact .inr ho
   ·exfalso
    by_cases hin : d.f0 < c ∧ c < d.f1
    ·rw [Int.min_eq_right (by omega), Int.max_eq_left (by omega)] at j1
     rw [Int.min_eq_left (by omega), Int.max_eq_right (by omega)] at j2
     by_cases hlt : c < x
     ·exact T.jcross x3 j2 (by omega) (by omega) (by omega)
     ·exact T.jcross j1 x4 (by omega) (by omega) (by omega)
    ·rcases o3 with ⟨h, h5, h6⟩ | ⟨h, h5, h6⟩
     ·by_cases hc : c < d.f0
      ·rw [Int.min_eq_left (by omega), Int.max_eq_right (by omega)] at j1
       rw [Int.min_eq_left (by omega), Int.max_eq_right (by omega)] at j2
       by_cases hlt : c < o
       ·exact T.jcross j1 h6 (by omega) (by omega) (by omega)
       ·exact T.jcross h5 j2 (by omega) (by omega) (by omega)
      ·rw [Int.min_eq_right (by omega), Int.max_eq_left (by omega)] at j1
       exact T.jcross h6 j1 (by omega) (by omega) (by omega)
     ·by_cases hc : c < d.f0
      ·rw [Int.min_eq_left (by omega), Int.max_eq_right (by omega)] at j2
       exact T.jcross j2 h5 (by omega) (by omega) (by omega)
      ·rw [Int.min_eq_right (by omega), Int.max_eq_left (by omega)] at j1
       rw [Int.min_eq_right (by omega), Int.max_eq_left (by omega)] at j2
       by_cases hlt : c < o
       ·exact T.jcross j1 h6 (by omega) (by omega) (by omega)
       ·exact T.jcross h5 j2 (by omega) (by omega) (by omega)

theorem rD_get (l : List DG) (j : Nat) (h : j < l.length) : rD l j = l[j] := by
 unfold rD rd_T52
 rw [Int.toNat_natCast, List.getD_eq_getElem?_getD, List.getElem?_eq_getElem h]
 rfl

def NC (b s : List DG) : Prop := s.Pairwise (fun d e => crossP e d = false) ∧ ∀ d ∈ s, ∀ e ∈ b, crossP d e = false
theorem any_false {d : DG} {b : List DG} (h : ∀ e ∈ b, crossP d e = false) : b.any (crossP d) = false := by
 rw [List.any_eq_false]
 intro e he
 rw [h e he]
 simp
theorem lookL_full (m : Int) {r s : List DG} (hs : s.Sublist r) : ∀ b : List DG, NC b s → (b.length : Int) < m → ((b ++ s).length : Int) = m → b ++ s ∈ lookL m r b := by
 induction hs with
 | slnil =>
  intro b _ h1 h2
  rw [List.append_nil] at h2
  omega
 | cons d _ ih =>
  intro b hn h1 h2
  rw [lookL_cons]
  exact List.mem_append_right _ (ih b hn h1 h2)
 | @cons_cons s r d _ ih =>
  intro b hn h1 h2
  rw [lookL_cons]
  refine List.mem_append_left _ ?_
  obtain ⟨p1, p2⟩ := hn
  obtain ⟨q1, q2⟩ := List.pairwise_cons.1 p1
  rw [any_false (p2 d (List.mem_cons_self ..)), if_neg (by simp)]
  have e : b ++ d :: s = (b ++ [d]) ++ s := by simp
  rw [e] at h2 ⊢
  unfold lookT
  by_cases hl : ((b ++ [d]).length : Int) = m
  ·have : s = [] := by
    rw [List.length_append] at h2
    exact List.length_eq_zero_iff.1 (by omega)
   rw [if_pos hl, this, List.append_nil]
   exact List.mem_singleton.2 rfl
  ·rw [if_neg hl]
   refine ih (b ++ [d]) ⟨q2, fun x hx y hy => ?_⟩ ?_ h2
   ·rcases List.mem_append.1 hy with hy | hy
    ·exact p2 x (List.mem_cons_of_mem _ hx) y hy
    ·rw [List.mem_singleton.1 hy]
     exact q1 x hx
   ·rw [List.length_append, List.length_singleton] at hl ⊢
    omega
theorem lookL_only (m : Int) : ∀ (r b : List DG), ∀ x ∈ lookL m r b, ∃ s, s.Sublist r ∧ NC b s ∧ x = b ++ s
 | [], _ => fun x hx => by cases hx
 | d :: r, b => fun x hx => by
  rw [lookL_cons] at hx
  rcases List.mem_append.1 hx with h | h
  ·by_cases ha : b.any (crossP d) = true
   ·rw [if_pos ha] at h
    cases h
   ·rw [if_neg ha] at h
    have hb : ∀ e ∈ b, crossP d e = false := by
     intro e he
     cases hc : crossP d e with
     | false => rfl
     | true => exact absurd (List.any_eq_true.2 ⟨e, he, hc⟩) ha
    unfold lookT at h
    split at h
    ·rw [List.mem_singleton.1 h]
     refine ⟨[d], (List.nil_sublist r).cons_cons d, ⟨List.pairwise_singleton _ _, fun x hx => ?_⟩, rfl⟩
     rw [List.mem_singleton.1 hx]
     exact hb
    ·obtain ⟨s, h1, ⟨h2, h3⟩, h4⟩ := lookL_only m r _ x h
     refine ⟨d :: s, h1.cons_cons d, ⟨List.pairwise_cons.2 ⟨fun y hy => h3 y hy d (by simp), h2⟩, fun y hy => ?_⟩, by rw [h4]; simp⟩
     rcases List.mem_cons.1 hy with e | e
     ·rw [e]
      exact hb
     ·exact fun z hz => h3 y e z (List.mem_append_left _ hz)
  ·obtain ⟨s, h1, h2, h3⟩ := lookL_only m r b x h
   exact ⟨s, h1.cons d, h2, h3⟩
def ltd (x y : DG) : Prop := x.f0 < y.f0 ∨ (x.f0 = y.f0 ∧ x.f1 < y.f1)
instance (x y : DG) : Decidable (ltd x y) := by unfold ltd; exact inferInstance
theorem sub_of_sorted : ∀ (D s : List DG), D.Pairwise ltd → s.Pairwise ltd → (∀ x ∈ s, x ∈ D) → s.Sublist D
 | [], s, _, _, h => by
  cases s with
  | nil => exact List.Sublist.slnil
  | cons x s => exact absurd (h x (List.mem_cons_self ..)) (by simp)
 | y :: D, [], _, _, _ => List.nil_sublist _
 | y :: D, x :: s, hD, hs, h => by
  obtain ⟨d1, d2⟩ := List.pairwise_cons.1 hD
  obtain ⟨s1, s2⟩ := List.pairwise_cons.1 hs
  have irr : ∀ z : DG, ¬ ltd z z := fun z hz => by unfold ltd at hz; omega
  have asy : ∀ z u : DG, ltd z u → ¬ ltd u z := fun z u h1 h2 => by unfold ltd at h1 h2; omega
  have tr : ∀ z u v : DG, ltd z u → ltd u v → ltd z v := fun z u v h1 h2 => by unfold ltd at *; omega
  rcases List.mem_cons.1 (h x (List.mem_cons_self ..)) with e | e
  ·rw [e]
   refine (sub_of_sorted D s d2 s2 (fun z hz => ?_)).cons_cons y
   rcases List.mem_cons.1 (h z (List.mem_cons_of_mem _ hz)) with e2 | e2
   ·have h3 := s1 z hz
    rw [e, e2] at h3
    exact absurd h3 (irr y)
   ·exact e2
  ·have hy := d1 x e
   refine (sub_of_sorted D (x :: s) d2 hs (fun z hz => ?_)).cons y
   rcases List.mem_cons.1 (h z hz) with e2 | e2
   ·rcases List.mem_cons.1 hz with e3 | e3
    ·exact absurd (by have h9 := hy; rw [← e3, e2] at h9; exact h9) (irr y)
    ·have h3 := s1 z e3
     rw [e2] at h3
     exact absurd h3 (asy _ _ hy)
   ·exact e2
theorem diags_mem (n : Int) (hn : 3 ≤ n ∧ n ≤ 8) (d : DG) : d ∈ diagsOf n ↔ (0 ≤ d.f0 ∧ d.f1 ≤ n - 1 ∧ 2 ≤ d.f1 - d.f0 ∧ d.f1 - d.f0 ≤ n - 2) := by
 obtain ⟨a, b⟩ := d
 unfold diagsOf paRows paRow pdB
 simp only [List.mem_flatMap, List.mem_map, List.mem_filter, List.mem_range'_1, decide_eq_true_eq]
 constructor
 ·rintro ⟨x, ⟨h1, h2⟩, y, ⟨⟨h3, h4⟩, h5⟩, h6⟩
  injection h6 with h6 h7
  omega
 ·rintro ⟨h1, h2, h3, h4⟩
  refine ⟨a.toNat, ⟨by omega, by omega⟩, b.toNat, ⟨⟨by omega, by omega⟩, by omega⟩, ?_⟩
  rw [Int.toNat_of_nonneg (by omega), Int.toNat_of_nonneg (by omega)]
theorem diags_sorted (n : Int) (hn : 3 ≤ n ∧ n ≤ 8) : (diagsOf n).Pairwise ltd := by
 have : n = 3 ∨ n = 4 ∨ n = 5 ∨ n = 6 ∨ n = 7 ∨ n = 8 := by omega
 rcases this with rfl | rfl | rfl | rfl | rfl | rfl <;> decide
theorem crossP_of (d e : DG) (h : crossP d e = false) : ¬ (d.f0 < e.f0 ∧ e.f0 < d.f1 ∧ d.f1 < e.f1) ∧ ¬ (e.f0 < d.f0 ∧ d.f0 < e.f1 ∧ e.f1 < d.f1) := by
 unfold crossP at h
 rw [Bool.or_eq_false_iff, decide_eq_false_iff_not, decide_eq_false_iff_not] at h
 exact h
theorem crossP_no {d e : DG} (h1 : ¬ (d.f0 < e.f0 ∧ e.f0 < d.f1 ∧ d.f1 < e.f1)) (h2 : ¬ (e.f0 < d.f0 ∧ d.f0 < e.f1 ∧ e.f1 < d.f1)) : crossP d e = false := by
 unfold crossP
 rw [Bool.or_eq_false_iff, decide_eq_false_iff_not, decide_eq_false_iff_not]
 exact ⟨h1, h2⟩
theorem tris_only (n : Int) (hn : 3 ≤ n ∧ n ≤ 8) (x : List DG) (hx : x ∈ trisOf n) : Tri n x := by
 have hlen := tris_len n x hx
 have hs : ∃ s, s.Sublist (diagsOf n) ∧ NC [] s ∧ x = s := by
  unfold trisOf lookT at hx
  split at hx
  ·exact ⟨[], List.nil_sublist _, ⟨List.Pairwise.nil, fun d hd => by cases hd⟩, List.mem_singleton.1 hx⟩
  ·exact lookL_only _ _ _ x hx
 obtain ⟨s, h1, ⟨h2, _⟩, rfl⟩ := hs
 refine ⟨by omega, hlen, fun d hd => (diags_mem n hn d).1 (h1.subset hd), ?_, (diags_sorted n hn).sublist h1⟩
 have key : ∀ (l : List DG), l.Pairwise (fun d e => crossP e d = false) → ∀ d ∈ l, ∀ e ∈ l, ¬ (d.f0 < e.f0 ∧ e.f0 < d.f1 ∧ d.f1 < e.f1) := by
  intro l
  induction l with
  | nil => intro _ d hd; cases hd
  | cons y l ih =>
   intro hp d hd e he
   obtain ⟨p1, p2⟩ := List.pairwise_cons.1 hp
   rcases List.mem_cons.1 hd with hd2 | hd2
   ·rcases List.mem_cons.1 he with he2 | he2
    ·rw [hd2, he2]
     omega
    ·rw [hd2]
     exact (crossP_of _ _ (p1 e he2)).2
   ·rcases List.mem_cons.1 he with he2 | he2
    ·rw [he2]
     exact (crossP_of _ _ (p1 d hd2)).1
    ·exact ih p2 d hd2 e he2
 exact key _ h2
theorem tris_full (n : Int) (hn : 3 ≤ n ∧ n ≤ 8) (x : List DG) (T : Tri n x) : x ∈ trisOf n := by
 have hsub : x.Sublist (diagsOf n) := sub_of_sorted _ _ (diags_sorted n hn) T.sorted (fun d hd => (diags_mem n hn d).2 (T.ok d hd))
 have hnc : NC [] x := by
  refine ⟨?_, fun d _ e he => by cases he⟩
  refine List.Pairwise.imp_of_mem (R := fun _ _ => True) ?_ (List.pairwise_of_forall (fun _ _ => trivial))
  intro d e hd he _
  exact crossP_no (T.nc e he d hd) (T.nc d hd e he)
 have hl := T.len
 unfold trisOf lookT
 by_cases h : (([] : List DG).length : Int) = n - 3
 ·rw [if_pos h]
  have : x = [] := List.length_eq_zero_iff.1 (by simp at h; omega)
  rw [this]
  exact List.mem_singleton.2 rfl
 ·rw [if_neg h]
  exact lookL_full (n - 3) hsub [] hnc (by simp at h ⊢; omega) (by simpa using hl)

theorem impl_Diagonal_96_s2_rounds (l : List DG) (c d : Int) (hl : l.length ≤ 4611686018427387904) (e : Nat) : ∀ (i k : Nat), i + e = l.length → e < k →
  ∃ r, impl_Diagonal_96_s2.l0 k l (l.length : Int) (i : Int) c d = some r ∧ (r ≥ 0 ↔ (l.drop i).any (fun z => crossB c d z.f0 z.f1) = true) := by
 induction e with
 | zero =>
  intro i k hi hk
  obtain ⟨k, rfl⟩ : ∃ q, k = q + 1 := ⟨k - 1, by omega⟩
  simp only [impl_Diagonal_96_s2.l0]
  rw [if_neg (by omega), List.drop_of_length_le (by omega)]
  exact ⟨-1, rfl, by simp⟩
 | succ e ih =>
  intro i k hi hk
  obtain ⟨k, rfl⟩ : ∃ q, k = q + 1 := ⟨k - 1, by omega⟩
  obtain ⟨r, hr, hr2⟩ := ih (i + 1) k (by omega) (by omega)
  simp only [impl_Diagonal_96_s2.l0, impl_IsTriangulation_1_s3.f]
  rw [if_pos (by omega), if_pos (by omega), if_pos (by omega), doCross_tells, wrap_succ i (by omega), hr, any_take_step _ l i (by omega)]
  simp only [Option.bind_some]
  cases hc : crossB c d (rD l i).f0 (rD l i).f1 with
  | true => exact ⟨i, rfl, by simp⟩
  | false => exact ⟨r, rfl, by rw [Bool.false_or]; exact hr2⟩
theorem impl_Diagonal_67_s1_tells (l : List DG) (c d : Int) (hl : l.length ≤ 4611686018427387904) (k : Nat) (hk : l.length < k) : impl_Diagonal_67_s1.f k l c d = some (l.any fun z => crossB c d z.f0 z.f1) := by
 obtain ⟨r, hr, hr2⟩ := impl_Diagonal_96_s2_rounds l c d hl l.length 0 k (by omega) hk
 unfold impl_Diagonal_67_s1.f impl_Diagonal_96_s2.f
 rw [show ((0 : Nat) : Int) = 0 from rfl] at hr
 rw [hr, Option.bind_some]
 congr 1
 rw [Bool.eq_iff_iff, decide_eq_true_iff, hr2, List.drop_zero]

theorem impl_IsTriangulation_rounds (n : Int) (hn : 3 ≤ n ∧ n ≤ 12) (l : List DG) (hl : l.length ≤ 4611686018427387904) (d : Nat) : ∀ (i k : Nat), i + d = l.length → d + l.length + 3 < k →
  impl_IsTriangulation.l0 k n l l (l.length : Int) (i : Int) = some ((List.range' i d).all (stepD n l)) := by
 induction d with
 | zero =>
  intro i k hi hk
  obtain ⟨k, rfl⟩ : ∃ q, k = q + 1 := ⟨k - 1, by omega⟩
  simp only [impl_IsTriangulation.l0]
  rw [if_neg (by omega)]
  rfl
 | succ d ih =>
  intro i k hi hk
  obtain ⟨k, rfl⟩ : ∃ q, k = q + 1 := ⟨k - 1, by omega⟩
  have ht : (l.take i).length = i := by rw [List.length_take]; omega
  have hc : impl_Diagonal_67_s1.f k (l.take i) (rD l i).f0 (rD l i).f1 = some ((l.take i).any fun z => crossB (rD l i).f0 (rD l i).f1 z.f0 z.f1) := impl_Diagonal_67_s1_tells _ _ _ (by omega) k (by omega)
  simp only [impl_IsTriangulation.l0, Int.toNat_natCast]
  rw [if_pos (by omega), if_pos (by omega), if_pos (by omega), isDiagonal_tells n _ _ hn, Option.bind_some, hc, Option.bind_some, wrap_succ i (by omega), ih (i + 1) k (by omega) (by omega), List.range'_succ, List.all_cons, stepD_def n l i]
  cases diagB n (rD l i).f0 (rD l i).f1 with
  | false => simp
  | true =>
   rw [if_pos rfl]
   by_cases h0 : i = 0
   ·subst h0
    rw [if_neg (by omega), if_pos (by omega)]
    cases (l.take 0).any (fun z => crossB (rD l 0).f0 (rD l 0).f1 z.f0 z.f1) <;> simp
   ·have b0 : (i == 0) = false := by simp [h0]
    rw [if_pos (by omega), wrap_pred i (by omega) (by omega), if_pos (by omega), if_pos (by omega), compareDiagonals_tells _ _ _ _ k (by omega), Option.bind_some, b0]
    have hcm := cmpD_nonneg (rD l (i - 1)).f0 (rD l (i - 1)).f1 (rD l i).f0 (rD l i).f1
    cases hs : lessB (rD l (i - 1)).f0 (rD l (i - 1)).f1 (rD l i).f0 (rD l i).f1 with
    | false => rw [if_pos (hcm.2 hs)]; simp
    | true =>
     rw [if_neg (fun h => by rw [hcm.1 h] at hs; cases hs), if_pos (by omega)]
     cases (l.take i).any (fun z => crossB (rD l i).f0 (rD l i).f1 z.f0 z.f1) <;> simp

theorem isTri_tells (n : Int) (l : List DG) (hl : l.length ≤ 4611686018427387904) : Ev (fun k => impl_IsTriangulation.f k n l) (isTriB n l) := by
 refine ⟨l.length + l.length + 5, fun k hk => ?_⟩
 obtain ⟨k, rfl⟩ : ∃ q, k = q + 1 := ⟨k - 1, by omega⟩
 show impl_IsTriangulation.f (k + 1) n l = _
 unfold impl_IsTriangulation.f isTriB goodD
 rw [isPolygon_tells, Option.bind_some]
 by_cases hn : 3 ≤ n ∧ n ≤ 12
 ·have w : wrap64 (n - 3) = n - 3 := by unfold wrap64; omega
  have h := impl_IsTriangulation_rounds n hn l hl l.length 0 k (by omega) (by omega)
  rw [show ((0 : Nat) : Int) = 0 from rfl] at h
  rw [decide_eq_true hn, if_pos rfl, w]
  simp only [impl_IsTriangulation.j0, h]
  by_cases hc : (l.length : Int) = n - 3
  ·rw [decide_eq_true hc, hc]
   simp
  ·rw [decide_eq_false hc]
   simp [hc]
 ·rw [decide_eq_false hn]
  simp [impl_IsTriangulation.j0]

theorem good_tri (n : Int) (l : List DG) (T : Tri n l) : goodD n l = true := by
 unfold goodD
 rw [List.all_eq_true]
 intro j hj
 have hj2 := (List.mem_range'_1.1 hj).2
 rw [Nat.zero_add] at hj2
 rw [stepD_def, rD_get l j hj2]
 have hok := T.ok l[j] (List.getElem_mem _)
 rw [Bool.and_eq_true, Bool.and_eq_true]
 refine ⟨?_, ?_, ?_⟩
 ·unfold diagB
  rw [decide_eq_true_eq]
  omega
 ·by_cases h0 : j = 0
  ·rw [Bool.or_eq_true]
   left
   rw [beq_iff_eq]
   exact h0
  ·rw [Bool.or_eq_true]
   right
   rw [rD_get l (j - 1) (by omega)]
   have := List.pairwise_iff_getElem.1 T.sorted (j - 1) j (by omega) hj2 (by omega)
   unfold lessB
   rw [decide_eq_true_eq]
   exact this
 ·rw [Bool.not_eq_true', List.any_eq_false]
  intro e he
  have hel : e ∈ l := List.mem_of_mem_take he
  have h1 := T.nc l[j] (List.getElem_mem _) e hel
  have h2 := T.nc e hel l[j] (List.getElem_mem _)
  simp only [crossB, Bool.or_eq_true, decide_eq_true_eq]
  omega

theorem least_tells (a b : Int) : spec_l1Least.f a b = some (min a b) := by
 unfold spec_l1Least.f
 split <;> congr 1 <;> omega
theorem most_tells (a b : Int) : spec_l1Most.f a b = some (max a b) := by
 unfold spec_l1Most.f
 split <;> congr 1 <;> omega

def leD (x y : DG) : Prop := x.f0 < y.f0 ∨ (x.f0 = y.f0 ∧ x.f1 ≤ y.f1)
theorem leD_antisymm {x y : DG} (h1 : leD x y) (h2 : leD y x) : x = y := by
 obtain ⟨a, b⟩ := x
 obtain ⟨c, d⟩ := y
 unfold leD at h1 h2
 simp only at h1 h2
 have e1 : a = c := by omega
 have e2 : b = d := by omega
 rw [e1, e2]
theorem sorted_unique : ∀ {l m : List DG}, l.Perm m → l.Pairwise leD → m.Pairwise leD → l = m
 | [], m, h, _, _ => (List.Perm.nil_eq h)
 | x :: l, [], h, _, _ => by have := h.length_eq; simp at this
 | x :: l, y :: m, h, h1, h2 => by
  obtain ⟨a1, a2⟩ := List.pairwise_cons.1 h1
  obtain ⟨b1, b2⟩ := List.pairwise_cons.1 h2
  have e : x = y := by
   have hx : x ∈ y :: m := h.subset (List.mem_cons_self ..)
   have hy : y ∈ x :: l := h.symm.subset (List.mem_cons_self ..)
   rcases List.mem_cons.1 hx with hx | hx
   ·exact hx
   ·rcases List.mem_cons.1 hy with hy | hy
    ·exact hy.symm
    ·exact leD_antisymm (a1 y hy) (b1 x hx)
  rw [e] at h ⊢
  rw [sorted_unique (List.Perm.cons_inv h) a2 b2]
theorem sorted_ins {A B : List DG} {d : DG} (h : (A ++ B).Pairwise leD) (hA : ∀ x ∈ A, leD x d) (hB : ∀ x ∈ B, leD d x) : (A ++ d :: B).Pairwise leD := by
 rw [List.pairwise_append] at h ⊢
 obtain ⟨h1, h2, h3⟩ := h
 refine ⟨h1, List.pairwise_cons.2 ⟨hB, h2⟩, fun x hx y hy => ?_⟩
 rcases List.mem_cons.1 hy with e | e
 ·rw [e]
  exact hA x hx
 ·exact h3 x hx y e
theorem leD_trans {x y z : DG} (h1 : leD x y) (h2 : leD y z) : leD x z := by
 unfold leD at *
 omega
theorem rT_mid (A : List DG) (d : DG) (R : List DG) (i : Int) (hi : i = (A.length : Int)) : rd_T52 (A ++ d :: R) i = d := by
 unfold rd_T52
 rw [hi, Int.toNat_natCast, List.getD_eq_getElem?_getD]
 simp
/-- The reference's place for one: behind all that are less. -/
theorem ps_l1 (d : DG) (x8 : List DG) (x9 x10 : Int) (e : Nat) : ∀ (A B : List DG) (k : Nat), B.length = e → A.length + B.length ≤ 1000 → (A ++ B).Pairwise leD → (∀ x ∈ A, leD x d) → e + 2 < k →
  ∃ S k', k ≤ k' + e + 1 ∧ S.Pairwise leD ∧ S.Perm (d :: (A ++ B)) ∧ spec_poSorted.l1 k (A ++ B) (A.length : Int) x8 x9 x10 d.f0 d.f1 = spec_poSorted.l0 k' S x8 x9 (wrap64 (x10 + 1)) := by
 induction e with
 | zero =>
  intro A B k hB hl hs hA hk
  obtain ⟨k, rfl⟩ : ∃ q, k = q + 1 := ⟨k - 1, by omega⟩
  have : B = [] := List.length_eq_zero_iff.1 hB
  subst this
  rw [List.append_nil] at hs ⊢
  refine ⟨A ++ [d], k, by omega, sorted_ins (by simpa using hs) hA (by simp), by simpa using (List.perm_append_comm (l₁ := A) (l₂ := [d])), ?_⟩
  simp only [spec_poSorted.l1, Int.toNat_natCast, Option.bind_some, List.nil_append, List.take_length, List.drop_length, List.length_append, List.length_nil, List.length_singleton, List.append_nil]
  rw [if_neg (by omega), if_pos (by omega), if_pos (by omega), if_pos (by omega), if_pos (by omega), if_pos (by omega)]
 | succ e ih =>
  intro A B k hB hl hs hA hk
  obtain ⟨k, rfl⟩ : ∃ q, k = q + 1 := ⟨k - 1, by omega⟩
  cases B with
  | nil => simp at hB
  | cons z B =>
   rw [List.length_cons] at hB hl
   have w : wrap64 ((A.length : Int) + 1) = ((A ++ [z]).length : Int) := by
    rw [List.length_append, List.length_singleton]
    unfold wrap64
    omega
   have r1 : rd_T52 (A ++ z :: B) (A.length : Int) = z := rT_mid _ _ _ _ rfl
   have hlen : (A ++ z :: B).length = A.length + (B.length + 1) := by simp
   simp only [spec_poSorted.l1]
   rw [if_pos (by rw [hlen]; omega), if_pos (by omega), r1, poLess_tells, Option.bind_some, w]
   cases hc : lessB z.f0 z.f1 d.f0 d.f1
   ·rw [if_neg (by simp)]
    have hdz : leD d z := by
     simp only [lessB, decide_eq_false_iff_not] at hc
     unfold leD
     omega
    refine ⟨A ++ d :: z :: B, k, by omega, sorted_ins hs hA ?_, List.perm_middle, ?_⟩
    ·intro x hx
     rcases List.mem_cons.1 hx with e | e
     ·rw [e]
      exact hdz
     ·exact leD_trans hdz ((List.pairwise_cons.1 (List.pairwise_append.1 hs).2.1).1 x e)
    ·have t1 : (A ++ z :: B).take A.length = A := by simp
     have t2 : (A ++ z :: B).drop A.length = z :: B := by simp
     simp only [Int.toNat_natCast, Option.bind_some, List.nil_append, t1, t2, List.length_append, List.length_nil, List.length_singleton, List.length_cons]
     rw [if_pos (by omega), if_pos (by omega), if_pos (by omega), if_pos (by omega)]
     simp
   ·rw [if_pos rfl]
    have hzd : leD z d := by
     simp only [lessB, decide_eq_true_eq] at hc
     unfold leD
     omega
    have ea : A ++ z :: B = (A ++ [z]) ++ B := by simp
    rw [ea] at hs ⊢
    obtain ⟨S, k', h1, h2, h3, h4⟩ := ih (A ++ [z]) B k (by omega) (by rw [List.length_append, List.length_singleton]; omega) hs (by
     intro x hx
     rcases List.mem_append.1 hx with e | e
     ·exact hA x e
     ·rw [List.mem_singleton] at e
      rw [e]
      exact hzd) (by omega)
    exact ⟨S, k', by omega, h2, h3, h4⟩

theorem ps_l0 (x8 : List DG) (hx : x8.length ≤ 100) (e : Nat) : ∀ (i : Nat) (S : List DG) (k : Nat), i + e = x8.length → S.length = i → S.Pairwise leD → S.Perm (x8.take i) → 110 * e + 10 < k →
  ∃ r, spec_poSorted.l0 k S x8 (x8.length : Int) (i : Int) = some r ∧ r.Pairwise leD ∧ r.Perm x8 := by
 induction e with
 | zero =>
  intro i S k hi hS hs hp hk
  obtain ⟨k, rfl⟩ : ∃ q, k = q + 1 := ⟨k - 1, by omega⟩
  refine ⟨S, ?_, hs, ?_⟩
  ·simp only [spec_poSorted.l0]
   rw [if_neg (by omega)]
  ·rwa [List.take_of_length_le (by omega)] at hp
 | succ e ih =>
  intro i S k hi hS hs hp hk
  obtain ⟨k, rfl⟩ : ∃ q, k = q + 1 := ⟨k - 1, by omega⟩
  obtain ⟨S', k', h1, h2, h3, h4⟩ := ps_l1 (rD x8 i) x8 (x8.length : Int) (i : Int) S.length [] S k rfl (by simp; omega) (by simpa using hs) (by simp) (by omega)
  rw [wrap_succ i (by omega)] at h4
  have hlen : S'.length = i + 1 := by rw [h3.length_eq]; simp; omega
  have hp' : S'.Perm (x8.take (i + 1)) := by
   refine h3.trans ?_
   have e1 : x8.take (i + 1) = x8.take i ++ [rD x8 i] := by
    rw [List.take_succ_eq_append_getElem (by omega)]
    congr 2
    unfold rD rd_T52
    rw [Int.toNat_natCast, List.getD_eq_getElem?_getD, List.getElem?_eq_getElem (by omega)]
    rfl
   rw [e1, List.nil_append]
   exact (List.Perm.cons _ hp).trans (List.perm_append_comm (l₁ := [rD x8 i]))
  obtain ⟨r, g1, g2, g3⟩ := ih (i + 1) S' k' (by omega) hlen h2 hp' (by omega)
  refine ⟨r, ?_, g2, g3⟩
  simp only [spec_poSorted.l0]
  rw [if_pos (by omega), if_pos (by omega), if_pos (by omega)]
  rw [← g1, ← h4]
  rfl

theorem poSorted_tells (l : List DG) (h : l.length ≤ 100) (k : Nat) (hk : 11010 < k) : ∃ r, spec_poSorted.f k l = some r ∧ r.Pairwise leD ∧ r.Perm l :=
 ps_l0 l h l.length 0 [] k (by omega) rfl List.Pairwise.nil (by simp) (by omega)

theorem cmpD_neg (a b c d : Int) : cmpD a b c d < 0 ↔ lessB a b c d = true := by
 have := cmpD_nonneg a b c d
 cases h : lessB a b c d
 ·rw [h] at this
  simp only [true_iff, iff_true] at this
  simp only [Bool.false_eq_true, iff_false]
  omega
 ·rw [h] at this
  simp only [Bool.true_eq_false, iff_false] at this
  simp only [iff_true]
  omega
theorem swap_set (A : List DG) (z d : DG) (R : List DG) : ((A ++ z :: d :: R).set (A.length + 1) z).set A.length d = A ++ d :: z :: R := by
 induction A with
 | nil => rfl
 | cons x A ih => simpa using ih

theorem ins_l1 (n : Int) (d : DG) (C : List DG) (m : Nat) : ∀ (A B : List DG) (k : Nat) (i : Nat), A.length = m → (A ++ B).Pairwise leD → (∀ x ∈ B, leD d x) → i = A.length + B.length → i ≤ 1000 → m + 8 < k →
  ∃ S k', k ≤ k' + m + 1 ∧ S.Pairwise leD ∧ S.Perm (A ++ d :: B) ∧ impl_Diagonal_120_s0.l1 k (A ++ d :: (B ++ C)) 0 n (i : Int) (m : Int) = impl_Diagonal_120_s0.l0 k' (S ++ C) 0 n ((i : Int) + 1) := by
 induction m with
 | zero =>
  intro A B k i hA hs hB hi hi2 hk
  obtain ⟨k, rfl⟩ : ∃ q, k = q + 1 := ⟨k - 1, by omega⟩
  have : A = [] := List.length_eq_zero_iff.1 hA
  subst this
  have w : wrap64 ((i : Int) + 1) = (i : Int) + 1 := by unfold wrap64; omega
  refine ⟨d :: B, k, by omega, sorted_ins hs (by simp) hB, List.Perm.refl _, ?_⟩
  simp only [impl_Diagonal_120_s0.l1]
  rw [if_neg (by omega), w]
  rfl
 | succ m ih =>
  intro A B k i hA hs hB hi hi2 hk
  obtain ⟨k, rfl⟩ : ∃ q, k = q + 1 := ⟨k - 1, by omega⟩
  rcases List.eq_nil_or_concat A with e | ⟨A', z, e⟩
  ·subst e
   simp at hA
  ·rw [List.concat_eq_append] at e
   subst e
   rw [List.length_append, List.length_singleton] at hA hi
   have w0 : wrap64 ((i : Int) + 1) = (i : Int) + 1 := by unfold wrap64; omega
   have w1 : wrap64 (((m + 1 : Nat) : Int) - 1) = (m : Int) := by unfold wrap64; omega
   have el : A' ++ [z] ++ d :: (B ++ C) = A' ++ z :: d :: (B ++ C) := by simp
   have r1 : rd_T52 (A' ++ z :: d :: (B ++ C)) ((m + 1 : Nat) : Int) = d := by
    rw [← el]
    exact rT_mid _ _ _ _ (by rw [List.length_append, List.length_singleton]; omega)
   have r2 : rd_T52 (A' ++ z :: d :: (B ++ C)) (m : Int) = z := rT_mid _ _ _ _ (by omega)
   have hlen : (A' ++ z :: d :: (B ++ C)).length = A'.length + (B.length + C.length + 2) := by simp
   rw [el]
   simp only [impl_Diagonal_120_s0.l1]
   rw [if_pos (by omega), if_pos (by omega), if_pos (by rw [hlen]; omega), w1, if_pos (by omega), if_pos (by rw [hlen]; omega), r1, r2, compareDiagonals_tells _ _ _ _ k (by omega), Option.bind_some, w0]
   by_cases hc : cmpD d.f0 d.f1 z.f0 z.f1 < 0
   ·rw [if_pos hc]
    have hlt := (cmpD_neg _ _ _ _).1 hc
    simp only [lessB, decide_eq_true_eq] at hlt
    have hsw : ((A' ++ z :: d :: (B ++ C)).set ((m + 1 : Nat) : Int).toNat ⟨z.f0, z.f1⟩).set (m : Int).toNat ⟨d.f0, d.f1⟩ = A' ++ d :: ((z :: B) ++ C) := by
     rw [Int.toNat_natCast, Int.toNat_natCast, show m = A'.length by omega]
     exact swap_set A' z d (B ++ C)
    rw [hsw]
    rw [List.append_assoc] at hs
    obtain ⟨S, k', h1, h2, h3, h4⟩ := ih A' (z :: B) k i (by omega) (by simpa using hs) (by
     intro x hx
     have hdz : leD d z := by unfold leD; omega
     rcases List.mem_cons.1 hx with e | e
     ·rw [e]
      exact hdz
     ·exact hB x e) (by simp; omega) hi2 (by omega)
    refine ⟨S, k', by omega, h2, h3.trans ?_, h4⟩
    have : (A' ++ [z] ++ d :: B) = A' ++ z :: d :: B := by simp
    rw [this]
    exact List.Perm.append_left A' (List.Perm.swap z d B)
   ·rw [if_neg hc]
    have hzd : leD z d := by
     have := mt (cmpD_neg _ _ _ _).2 hc
     simp only [lessB, decide_eq_true_eq] at this
     unfold leD
     omega
    refine ⟨A' ++ [z] ++ d :: B, k, by omega, ?_, List.Perm.refl _, ?_⟩
    ·refine sorted_ins hs (fun x hx => ?_) hB
     rcases List.mem_append.1 hx with e | e
     ·have h5 := (List.pairwise_append.1 (List.pairwise_append.1 hs).1).2.2 x e z (by simp)
      exact leD_trans h5 hzd
     ·rw [List.mem_singleton] at e
      rw [e]
      exact hzd
    ·simp

theorem ins_l0 (n : Nat) (hn : n ≤ 12) (C : List DG) : ∀ (S : List DG) (k : Nat), S.Pairwise leD → 0 < S.length → S.length + C.length = n → 25 * C.length + 25 < k →
  ∃ r, impl_Diagonal_120_s0.l0 k (S ++ C) 0 (n : Int) (S.length : Int) = some r ∧ r.Pairwise leD ∧ r.Perm (S ++ C) := by
 induction C with
 | nil =>
  intro S k hs h0 hl hk
  obtain ⟨k, rfl⟩ : ∃ q, k = q + 1 := ⟨k - 1, by omega⟩
  refine ⟨S, ?_, hs, by simp⟩
  simp only [impl_Diagonal_120_s0.l0, List.append_nil]
  rw [if_neg (by simp at hl; omega)]
 | cons d C ih =>
  intro S k hs h0 hl hk
  rw [List.length_cons] at hl hk
  obtain ⟨k, rfl⟩ : ∃ q, k = q + 1 := ⟨k - 1, by omega⟩
  obtain ⟨S', k', h1, h2, h3, h4⟩ := ins_l1 (n : Int) d C S.length S [] k S.length rfl (by simpa using hs) (by simp) (by simp) (by omega) (by omega)
  have hlen : S'.length = S.length + 1 := by rw [h3.length_eq]; simp
  obtain ⟨r, g1, g2, g3⟩ := ih S' k' h2 (by omega) (by omega) (by omega)
  refine ⟨r, ?_, g2, g3.trans ?_⟩
  ·simp only [impl_Diagonal_120_s0.l0]
   rw [if_pos (by omega)]
   rw [show (S'.length : Int) = (S.length : Int) + 1 by omega] at g1
   rw [← g1, ← h4]
   simp
  ·have := List.Perm.append_right C h3
   simpa using this

theorem len12 (k : Nat) (L : Nat) (h : L ≤ 12) : ∃ r, bits_Len.f (k + 1) (IntKind.u64.wrap (L : Int)) = some r := by
 have : L = 0 ∨ L = 1 ∨ L = 2 ∨ L = 3 ∨ L = 4 ∨ L = 5 ∨ L = 6 ∨ L = 7 ∨ L = 8 ∨ L = 9 ∨ L = 10 ∨ L = 11 ∨ L = 12 := by omega
 rcases this with rfl | rfl | rfl | rfl | rfl | rfl | rfl | rfl | rfl | rfl | rfl | rfl | rfl <;> exact ⟨_, rfl⟩

theorem sortFunc_tells (l : List DG) (h : l.length ≤ 12) (k : Nat) (hk : 400 < k) : ∃ r, impl_Diagonal_89_s4.f k l = some r ∧ r.Pairwise leD ∧ r.Perm l := by
 obtain ⟨k, rfl⟩ : ∃ q, k = q + 1 := ⟨k - 1, by omega⟩
 obtain ⟨q, hq⟩ := len12 k l.length h
 have w : wrap64 (0 + 1) = 1 := by unfold wrap64; omega
 unfold impl_Diagonal_89_s4.f impl_Diagonal_111.f
 rw [hq]
 simp only [Option.bind_some]
 rw [if_pos (by omega)]
 unfold impl_Diagonal_120_s0.f
 rw [w]
 cases l with
 | nil =>
  refine ⟨[], ?_, List.Pairwise.nil, List.Perm.refl _⟩
  rfl
 | cons d C =>
  obtain ⟨r, g1, g2, g3⟩ := ins_l0 (C.length + 1) h C [d] (k + 1) (by simp) (by simp) (by simp; omega) (by simp at h; omega)
  refine ⟨r, ?_, g2, g3⟩
  have e : impl_Diagonal_120_s0.l0 (k + 1) (d :: C) 0 ((d :: C).length : Int) 1 = some r := g1
  rw [e]
  rfl


theorem rd_set (l : List Int) (a v i : Int) (ha : 0 ≤ a ∧ a < (l.length : Int)) (hi : 0 ≤ i) : rd (l.set a.toNat v) i = if i = a then v else rd l i := by
 unfold rd
 rw [List.getD_eq_getElem?_getD, List.getD_eq_getElem?_getD, List.getElem?_set]
 by_cases h : i = a
 ·rw [if_pos (by omega), if_pos (by omega), if_pos h]
  rfl
 ·rw [if_neg (by omega), if_neg h]
theorem ext_rd (l m : List Int) (hl : l.length = m.length) (h : ∀ i : Int, 0 ≤ i → i < (l.length : Int) → rd l i = rd m i) : l = m := by
 apply List.ext_getElem hl
 intro i h1 h2
 have := h (i : Int) (by omega) (by omega)
 unfold rd at this
 rw [Int.toNat_natCast, List.getD_eq_getElem?_getD, List.getD_eq_getElem?_getD, List.getElem?_eq_getElem h1, List.getElem?_eq_getElem h2] at this
 exact this
/-- How many ends of diagonals lie at a corner. -/
def dg (l : List DG) (i : Int) : Int := ((l.countP fun d => d.f0 == i : Nat) : Int) + ((l.countP fun d => d.f1 == i : Nat) : Int)
theorem dg_perm {l m : List DG} (h : l.Perm m) (i : Int) : dg l i = dg m i := by
 unfold dg
 rw [h.countP_eq, h.countP_eq]
theorem dg_cons (d : DG) (l : List DG) (i : Int) : dg (d :: l) i = dg l i + (if d.f0 = i then 1 else 0) + if d.f1 = i then 1 else 0 := by
 unfold dg
 rw [List.countP_cons, List.countP_cons]
 by_cases h1 : d.f0 = i <;> by_cases h2 : d.f1 = i <;> simp [h1, h2] <;> omega
theorem dg_bounds (l : List DG) (i : Int) : 0 ≤ dg l i ∧ dg l i ≤ 2 * (l.length : Int) := by
 unfold dg
 have h1 := List.countP_le_length (p := fun d : DG => d.f0 == i) (l := l)
 have h2 := List.countP_le_length (p := fun d : DG => d.f1 == i) (l := l)
 omega
theorem quid_l1 (l : List DG) (N : Nat) (hl : l.length ≤ 1000) (hd : ∀ d ∈ l, 0 ≤ d.f0 ∧ d.f0 < d.f1 ∧ d.f1 < (N : Int)) (e : Nat) : ∀ (j : Nat) (x5 : List Int) (D : List DG), j + e = l.length → D.length = j → x5.length = N → (∀ i : Int, 0 ≤ i → i < (N : Int) → rd x5 i = 1 + dg D i) →
  ∃ R, R.length = N ∧ (∀ i : Int, 0 ≤ i → i < (N : Int) → rd R i = 1 + dg (D ++ l.drop j) i) ∧ ∀ k, e < k → spec_poQuiddity.l1 k x5 l (l.length : Int) (j : Int) = some R := by
 induction e with
 | zero =>
  intro j x5 D hj hD hx h
  refine ⟨x5, hx, fun i h1 h2 => ?_, fun k hk => ?_⟩
  ·rw [List.drop_of_length_le (by omega), List.append_nil]
   exact h i h1 h2
  ·obtain ⟨k, rfl⟩ : ∃ q, k = q + 1 := ⟨k - 1, by omega⟩
   simp only [spec_poQuiddity.l1]
   rw [if_neg (by omega)]
 | succ e ih =>
  intro j x5 D hj hD hx h
  have hm : rD l j ∈ l := by
   have : rD l j ∈ l.drop j := by
    rw [rD_drop l j (by omega)]
    exact List.mem_cons_self ..
   exact List.mem_of_mem_drop this
  have hok := hd _ hm
  have hb := dg_bounds D
  obtain ⟨y, hy⟩ : ∃ y, y = x5.set (rD l j).f0.toNat (rd x5 (rD l j).f0 + 1) := ⟨_, rfl⟩
  have hyl : y.length = N := by rw [hy, List.length_set]; exact hx
  have hy1 : rd y (rD l j).f1 = rd x5 (rD l j).f1 := by
   rw [hy, rd_set _ _ _ _ (by omega) (by omega), if_neg (by omega)]
  have w1 : wrap64 (rd x5 (rD l j).f0 + 1) = rd x5 (rD l j).f0 + 1 := by
   have h1 := h (rD l j).f0 (by omega) (by omega)
   have h2 := hb (rD l j).f0
   rw [h1]
   unfold wrap64
   omega
  have w2 : wrap64 (rd y (rD l j).f1 + 1) = rd x5 (rD l j).f1 + 1 := by
   have h1 := h (rD l j).f1 (by omega) (by omega)
   have h2 := hb (rD l j).f1
   rw [hy1, h1]
   unfold wrap64
   omega
  obtain ⟨R, r1, r2, r3⟩ := ih (j + 1) (y.set (rD l j).f1.toNat (rd x5 (rD l j).f1 + 1)) (D ++ [rD l j]) (by omega) (by rw [List.length_append, List.length_singleton]; omega) (by rw [List.length_set]; exact hyl) (by
   intro i h1 h2
   have h3 := h i h1 h2
   have hp : dg (D ++ [rD l j]) i = dg (rD l j :: D) i := dg_perm (List.perm_append_singleton _ _) i
   rw [rd_set _ _ _ _ (by omega) h1, hp, dg_cons, hy]
   by_cases e1 : i = (rD l j).f1
   ·rw [if_pos e1, if_neg (by omega), if_pos e1.symm, ← e1, h3]
    omega
   ·rw [if_neg e1, rd_set _ _ _ _ (by omega) h1, if_neg (show ¬ (rD l j).f1 = i by omega)]
    by_cases e0 : i = (rD l j).f0
    ·rw [if_pos e0, if_pos e0.symm, ← e0, h3]
     omega
    ·rw [if_neg e0, if_neg (by omega), h3]
     omega)
  refine ⟨R, r1, ?_, fun k hk => ?_⟩
  ·rw [rD_drop l j (by omega)]
   simpa using r2
  ·obtain ⟨k, rfl⟩ : ∃ q, k = q + 1 := ⟨k - 1, by omega⟩
   have h3 := r3 k (by omega)
   simp only [spec_poQuiddity.l1]
   have g1 : (rD l j).f0 < (x5.length : Int) := by omega
   have g2 : 0 ≤ (rD l j).f1 := by omega
   have g3 : (rD l j).f1 < (x5.length : Int) := by omega
   rw [if_pos (by omega), if_pos (by omega), if_pos (by omega), if_pos hok.1, if_pos g1, w1]
   simp only [Option.bind_some]
   rw [if_pos g2, if_pos g3, ← hy, w2, wrap_succ j (by omega)]
   exact h3
theorem quid_l0 (l : List DG) (N : Nat) (hl : l.length ≤ 1000) (hN : N ≤ 1000) (hd : ∀ d ∈ l, 0 ≤ d.f0 ∧ d.f0 < d.f1 ∧ d.f1 < (N : Int)) (e : Nat) : ∀ (j : Nat) (x5 : List Int), j + e = N → x5.length = N → (∀ i : Int, 0 ≤ i → i < (j : Int) → rd x5 i = 1) →
  ∃ R, R.length = N ∧ (∀ i : Int, 0 ≤ i → i < (N : Int) → rd R i = 1 + dg l i) ∧ ∀ k, e + l.length + 1 < k → spec_poQuiddity.l0 k l x5 (N : Int) (j : Int) = some R := by
 induction e with
 | zero =>
  intro j x5 hj hx h
  obtain ⟨R, r1, r2, r3⟩ := quid_l1 l N hl hd l.length 0 x5 [] (by omega) rfl hx (fun i h1 h2 => by rw [h i h1 (by omega)]; rfl)
  refine ⟨R, r1, by simpa using r2, fun k hk => ?_⟩
  obtain ⟨k, rfl⟩ : ∃ q, k = q + 1 := ⟨k - 1, by omega⟩
  simp only [spec_poQuiddity.l0]
  rw [if_neg (by omega)]
  exact r3 k (by omega)
 | succ e ih =>
  intro j x5 hj hx h
  obtain ⟨R, r1, r2, r3⟩ := ih (j + 1) (x5.set (j : Int).toNat 1) (by omega) (by rw [List.length_set]; exact hx) (by
   intro i h1 h2
   rw [rd_set _ _ _ _ (by omega) h1]
   by_cases e0 : i = (j : Int)
   ·rw [if_pos e0]
   ·rw [if_neg e0]
    exact h i h1 (by omega))
  refine ⟨R, r1, r2, fun k hk => ?_⟩
  obtain ⟨k, rfl⟩ : ∃ q, k = q + 1 := ⟨k - 1, by omega⟩
  simp only [spec_poQuiddity.l0]
  rw [if_pos (by omega), if_pos (by omega), if_pos (by omega), wrap_succ j (by omega)]
  exact r3 k (by omega)
theorem poQuiddity_tells (n : Int) (l : List DG) (hn : 3 ≤ n ∧ n ≤ 12) (hl : l.length ≤ 1000) (hd : ∀ d ∈ l, 0 ≤ d.f0 ∧ d.f0 < d.f1 ∧ d.f1 < n) :
  ∃ R, R.length = n.toNat ∧ (∀ i : Int, 0 ≤ i → i < n → rd R i = 1 + dg l i) ∧ ∀ k, l.length + 20 < k → spec_poQuiddity.f k n l = some R := by
 obtain ⟨R, r1, r2, r3⟩ := quid_l0 l n.toNat hl (by omega) (fun d h => by have := hd d h; omega) n.toNat 0 (List.replicate n.toNat 0) (by omega) (by simp) (by omega)
 refine ⟨R, r1, fun i h1 h2 => r2 i h1 (by omega), fun k hk => ?_⟩
 unfold spec_poQuiddity.f
 rw [if_pos (by omega), if_pos (by omega), Option.bind_some, List.length_replicate]
 exact r3 k (by omega)

theorem quid_same (x11 : List DG) (x12 : Int) : ∀ (k : Nat) (x5 : List Int) (x13 : Int), impl_quiddity.l0 k x5 x11 x12 x13 = spec_poQuiddity.l1 k x5 x11 x12 x13
 | 0, _, _ => rfl
 | k + 1, x5, x13 => by
  simp only [impl_quiddity.l0, spec_poQuiddity.l1, quid_same x11 x12 k]
theorem mul_one_n (n : Int) (h : 3 ≤ n ∧ n ≤ 12) : bits_Mul.f 1 n = some (0, n) := by
 have : n = 3 ∨ n = 4 ∨ n = 5 ∨ n = 6 ∨ n = 7 ∨ n = 8 ∨ n = 9 ∨ n = 10 ∨ n = 11 ∨ n = 12 := by omega
 rcases this with rfl | rfl | rfl | rfl | rfl | rfl | rfl | rfl | rfl | rfl <;> rfl
theorem quiddity_tells (n : Int) (l : List DG) (hn : 3 ≤ n ∧ n ≤ 12) (hl : l.length ≤ 1000) (hd : ∀ d ∈ l, 0 ≤ d.f0 ∧ d.f0 < d.f1 ∧ d.f1 < n) :
  ∃ R, R.length = n.toNat ∧ (∀ i : Int, 0 ≤ i → i < n → rd R i = 1 + dg l i) ∧ ∀ k, l.length + 20 < k → spec_poQuiddity.f k n l = some R ∧ impl_quiddity.f k n l = some R := by
 obtain ⟨R, r1, r2, r3⟩ := poQuiddity_tells n l hn hl hd
 obtain ⟨R2, q1, q2, q3⟩ := quid_l1 l n.toNat hl (fun d h => by have := hd d h; omega) l.length 0 (List.replicate n.toNat 1) [] (by omega) rfl (by simp) (fun i h1 h2 => by
  unfold rd
  rw [List.getD_eq_getElem?_getD, List.getElem?_replicate, if_pos (by omega)]
  rfl)
 have e : R2 = R := by
  refine ext_rd _ _ (by omega) (fun i h1 h2 => ?_)
  rw [q2 i h1 (by omega), r2 i h1 (by omega)]
  rfl
 refine ⟨R, r1, r2, fun k hk => ⟨r3 k hk, ?_⟩⟩
 have hrep : slices_Repeat_int_int.f [1] n = some (List.replicate n.toNat 1) := by
  unfold slices_Repeat_int_int.f
  rw [if_pos ⟨rfl, by omega, by omega, mul_one_n n hn⟩]
  rfl
 have h3 := q3 k (by omega)
 rw [show ((0 : Nat) : Int) = 0 from rfl, e] at h3
 unfold impl_quiddity.f
 rw [hrep, Option.bind_some, quid_same]
 exact h3

/-- A triangulation's quiddity. -/
def qd (n : Nat) (l : List DG) : List Int := (List.range n).map fun (i : Nat) => 1 + dg l (i : Int)
theorem qd_len (n : Nat) (l : List DG) : (qd n l).length = n := by simp [qd]
theorem qd_tells (n : Int) (hn : 3 ≤ n ∧ n ≤ 8) (x : List DG) (hx : x ∈ trisOf n) (k : Nat) (hk : 200 < k) : spec_poQuiddity.f k n x = some (qd n.toNat x) ∧ impl_quiddity.f k n x = some (qd n.toNat x) := by
 have T := tris_only n hn x hx
 have hl := tris_len n x hx
 obtain ⟨R, r1, r2, r3⟩ := quiddity_tells n x (by omega) (by omega) (fun d hd => by have := T.ok d hd; omega)
 have e : R = qd n.toNat x := ext_rd _ _ (by rw [qd_len, r1]) (fun i h0 h1 => by
  rw [r2 i h0 (by omega)]
  unfold rd qd
  rw [List.getD_eq_getElem?_getD, List.getElem?_map, List.getElem?_range (by omega)]
  simp [Int.toNat_of_nonneg h0])
 rw [← e]
 exact r3 k (by omega)
/-- Put in its place. -/
def insQ (q : List Int) : List (List Int) → Nat → List (List Int)
 | out, 0 => q :: out
 | out, m + 1 => if q < out.getD m [] then insQ q out m else out.take (m + 1) ++ q :: out.drop (m + 1)
theorem insQ_len (q : List Int) (out : List (List Int)) : ∀ m, (insQ q out m).length = out.length + 1
 | 0 => rfl
 | m + 1 => by
  unfold insQ
  by_cases h : q < out.getD m []
  ·rw [if_pos h]; exact insQ_len q out m
  ·rw [if_neg h, List.length_append, List.length_cons, List.length_take, List.length_drop]; omega
theorem insQ_mem (q : List Int) (out : List (List Int)) : ∀ m, ∀ x ∈ insQ q out m, x = q ∨ x ∈ out
 | 0, x, hx => by
  rcases List.mem_cons.1 hx with h | h
  ·exact Or.inl h
  ·exact Or.inr h
 | m + 1, x, hx => by
  unfold insQ at hx
  by_cases h : q < out.getD m []
  ·rw [if_pos h] at hx; exact insQ_mem q out m x hx
  ·rw [if_neg h] at hx
   rcases List.mem_append.1 hx with h1 | h1
   ·exact Or.inr (List.mem_of_mem_take h1)
   ·rcases List.mem_cons.1 h1 with h1 | h1
    ·exact Or.inl h1
    ·exact Or.inr (List.mem_of_mem_drop h1)
def sortQ : List (List Int) → List (List Int) → List (List Int)
 | out, [] => out
 | out, q :: r => sortQ (insQ q out out.length) r
theorem before_rounds (x y : List Int) (hl : x.length = y.length) (hx : x.length ≤ 1000) : ∀ (d i k : Nat), i + d = x.length → d < k → spec_caListBefore.l0 k x y (x.length : Int) (i : Int) = some (decide (x.drop i < y.drop i))
 | 0, i, k, hi, hk => by
  obtain ⟨k, rfl⟩ : ∃ q, k = q + 1 := ⟨k - 1, by omega⟩
  rw [spec_caListBefore.l0, if_neg (by omega), List.drop_of_length_le (show x.length ≤ i by omega), List.drop_of_length_le (show y.length ≤ i by omega)]
  simp
 | d + 1, i, k, hi, hk => by
  obtain ⟨k, rfl⟩ : ∃ q, k = q + 1 := ⟨k - 1, by omega⟩
  have h1 : i < x.length := by omega
  have h2 : i < y.length := by omega
  rw [spec_caListBefore.l0, if_pos (by omega), if_pos (by omega), if_pos (by omega), if_pos (by omega), rdI_at x i h1, rdI_at y i h2, List.drop_eq_getElem_cons h1, List.drop_eq_getElem_cons h2]
  by_cases he : x[i] = y[i]
  ·rw [if_pos he, show wrap64 ((i : Int) + 1) = ((i + 1 : Nat) : Int) by unfold wrap64; omega, before_rounds x y hl hx d (i + 1) k (by omega) (by omega)]
   congr 1
   rw [decide_eq_decide, List.cons_lt_cons_iff]
   constructor
   ·intro h; exact Or.inr ⟨he, h⟩
   ·rintro (h | h)
    ·omega
    ·exact h.2
  ·rw [if_neg he]
   congr 1
   rw [decide_eq_decide, List.cons_lt_cons_iff]
   constructor
   ·intro h; exact Or.inl h
   ·rintro (h | h)
    ·exact h
    ·exact absurd h.1 he
theorem before_tells (x y : List Int) (hl : x.length = y.length) (hx : x.length ≤ 1000) (k : Nat) (hk : x.length < k) : spec_caListBefore.f k x y = some (decide (x < y)) := by
 have h := before_rounds x y hl hx x.length 0 k (by omega) hk
 rw [List.drop_zero, List.drop_zero] at h
 exact h
theorem rdLI_at (l : List (List Int)) (i : Nat) (h : i < l.length) : rd_L4 l (i : Int) = l.getD i [] := by
 unfold rd_L4
 rw [Int.toNat_natCast]
theorem place_rounds (n : Int) (out : List (List Int)) (q : List Int) (N : Nat) (hq : q.length = N) (hN : N ≤ 100) (ho : ∀ x ∈ out, x.length = N) (hlo : out.length ≤ 100000) (ts : List (List DG)) (L i : Int) (m : Nat) : ∀ k : Nat, m ≤ out.length → m + 200 < k → ∃ k' : Nat, k ≤ k' + m + 1 ∧ k' < k ∧ spec_caQuiddities.l1 k n out q (m : Int) ts L i = spec_caQuiddities.l0 k' n (insQ q out m) ts L (wrap64 (i + 1)) := by
 induction m with
 | zero =>
  intro k hm hk
  obtain ⟨k, rfl⟩ : ∃ z, k = z + 1 := ⟨k - 1, by omega⟩
  refine ⟨k, by omega, by omega, ?_⟩
  simp only [spec_caQuiddities.l1]
  rw [if_neg (by omega)]
  simp only [Option.bind_some, List.nil_append]
  rw [if_pos (by omega), if_pos (by omega)]
  have e0 : ((0 : Nat) : Int).toNat = 0 := rfl
  simp only [e0, List.take_zero, List.drop_zero, List.length_nil, List.nil_append, List.append_nil, List.length_cons, List.singleton_append]
  rw [if_pos (by omega), if_pos (by omega), if_pos (by omega)]
  rfl
 | succ m ih =>
  intro k hm hk
  obtain ⟨k, rfl⟩ : ∃ z, k = z + 1 := ⟨k - 1, by omega⟩
  have w1 : wrap64 (((m + 1 : Nat) : Int) - 1) = (m : Int) := by unfold wrap64; omega
  have hx : out.getD m [] ∈ out := by
   rw [List.getD_eq_getElem?_getD, List.getElem?_eq_getElem (show m < out.length by omega)]
   exact List.getElem_mem _
  have hb := before_tells q (out.getD m []) (by rw [hq, ho _ hx]) (by omega) k (by omega)
  simp only [spec_caQuiddities.l1, w1, rdLI_at out m (by omega), hb, Option.bind_some]
  rw [if_pos (by omega), if_pos (by omega), if_pos (by omega)]
  unfold insQ
  by_cases h : q < out.getD m []
  ·obtain ⟨k', h1, h2, h3⟩ := ih k (by omega) (by omega)
   refine ⟨k', by omega, by omega, ?_⟩
   rw [if_pos h, if_pos (decide_eq_true h)]
   exact h3
  ·refine ⟨k, by omega, by omega, ?_⟩
   rw [if_neg h, if_neg (by simpa using h), if_pos (by omega), if_pos (by omega), Int.toNat_natCast]
   simp only [List.nil_append, List.length_append, List.length_take, List.length_drop, List.length_cons, List.length_nil]
   rw [if_pos (by omega), if_pos (by omega), if_pos (by omega), List.append_assoc]
   rfl
theorem rdLD_at (L : List (List DG)) (i : Nat) (h : i < L.length) : rd_L2 L (i : Int) = L[i] := by
 unfold rd_L2
 rw [Int.toNat_natCast, List.getD_eq_getElem?_getD, List.getElem?_eq_getElem h]
 rfl
theorem sort_rounds (n : Int) (N : Nat) (hN : N ≤ 100) (ts : List (List DG)) (hts : ts.length ≤ 1000) (qf : List DG → List Int) (hqf : ∀ x ∈ ts, (qf x).length = N ∧ ∀ k, 200 < k → spec_poQuiddity.f k n x = some (qf x)) (C : Nat) (hC : C = 1010) (d : Nat) : ∀ (i k : Nat) (out : List (List Int)), i + d = ts.length → out.length = i → (∀ x ∈ out, x.length = N) → d * C + 400 < k → spec_caQuiddities.l0 k n out ts (ts.length : Int) (i : Int) = some (sortQ out ((ts.drop i).map qf)) := by
 induction d with
 | zero =>
  intro i k out hi ho hx hk
  obtain ⟨k, rfl⟩ : ∃ z, k = z + 1 := ⟨k - 1, by omega⟩
  rw [spec_caQuiddities.l0, if_neg (by omega), List.drop_of_length_le (by omega)]
  rfl
 | succ d ih =>
  intro i k out hi ho hx hk
  obtain ⟨k, rfl⟩ : ∃ z, k = z + 1 := ⟨k - 1, by rw [Nat.succ_mul] at hk; generalize d * C = D at hk; omega⟩
  have hlt : i < ts.length := by omega
  have hm := hqf ts[i] (List.getElem_mem _)
  have hkk : 1400 ≤ k := by rw [Nat.succ_mul] at hk; generalize d * C = D at hk; omega
  obtain ⟨k', h1, h2, h3⟩ := place_rounds n out (qf ts[i]) N hm.1 hN hx (by omega) ts (ts.length : Int) (i : Int) out.length k (Nat.le_refl _) (by omega)
  have h4 := ih (i + 1) k' (insQ (qf ts[i]) out out.length) (by omega) (by rw [insQ_len]; omega) (fun x hx' => by
   rcases insQ_mem _ _ _ x hx' with rfl | h
   ·exact hm.1
   ·exact hx x h) (by rw [Nat.succ_mul] at hk; generalize d * C = D at hk ⊢; omega)
  rw [spec_caQuiddities.l0, if_pos (by omega), if_pos (by omega), if_pos (by omega), rdLD_at ts i hlt, hm.2 k (by omega), Option.bind_some, h3, show wrap64 ((i : Int) + 1) = ((i + 1 : Nat) : Int) by unfold wrap64; omega, h4, List.drop_eq_getElem_cons hlt, List.map_cons]
  rfl
theorem list_rounds (n : Int) (ts : List (List DG)) (hts : ts.length ≤ 1000) (qf : List DG → List Int) (hqf : ∀ x ∈ ts, ∀ k, 200 < k → impl_quiddity.f k n x = some (qf x)) : ∀ (d i k : Nat) (out : List (List Int)), i + d = ts.length → out.length = i → d + 400 < k → impl_allQuiddities.l0 k n out ts (ts.length : Int) (i : Int) = (slices_SortFunc_int_int.f (out ++ (ts.drop i).map qf)).bind fun t => some t
 | 0, i, k, out, hi, ho, hk => by
  obtain ⟨k, rfl⟩ : ∃ z, k = z + 1 := ⟨k - 1, by omega⟩
  rw [impl_allQuiddities.l0, if_neg (by omega), List.drop_of_length_le (by omega)]
  simp
 | d + 1, i, k, out, hi, ho, hk => by
  obtain ⟨k, rfl⟩ : ∃ z, k = z + 1 := ⟨k - 1, by omega⟩
  have hlt : i < ts.length := by omega
  have hm := hqf ts[i] (List.getElem_mem _) k (by omega)
  rw [impl_allQuiddities.l0, if_pos (by omega), if_pos (by omega), if_pos (by omega), rdLD_at ts i hlt, hm, Option.bind_some, if_pos (by omega), show wrap64 ((i : Int) + 1) = ((i + 1 : Nat) : Int) by unfold wrap64; omega, list_rounds n ts hts qf hqf d (i + 1) k _ (by omega) (by simp; omega) (by omega), List.drop_eq_getElem_cons hlt, List.map_cons]
  simp
/-! ### One list -/
def adjQ : List (List Int) → Bool
 | a :: b :: l => decide (a < b) && adjQ (b :: l)
 | _ => true
theorem adjQ_lt : ∀ (l : List (List Int)) (a : List Int), adjQ (a :: l) = true → (a :: l).Pairwise fun x y => x < y
 | [], a, _ => by simp
 | b :: l, a, h => by
  simp only [adjQ, Bool.and_eq_true, decide_eq_true_eq] at h
  have ih := adjQ_lt l b h.2
  refine List.Pairwise.cons (fun y hy => ?_) ih
  rcases List.mem_cons.1 hy with rfl | hy
  ·exact h.1
  ·exact List.lt_trans h.1 ((List.pairwise_cons.1 ih).1 y hy)
def quidsGood (n : Nat) : Bool :=
 let ts := (trisOf (n : Int)).map (qd n)
 let r := sortQ [] ts
 adjQ r && (r.isPerm ts && (decide (r.length ≤ 1000) && !r.isEmpty))
set_option maxRecDepth 1000000 in
theorem quids_good_all : ((List.range 6).all fun i => quidsGood (i + 3)) = true := by kernel_rfl
theorem quids_good (n : Nat) (hn : 3 ≤ n ∧ n ≤ 8) : quidsGood n = true := by
 have h := List.all_eq_true.1 quids_good_all (n - 3) (by rw [List.mem_range]; omega)
 rwa [show n - 3 + 3 = n by omega] at h
theorem quids_all (n : Int) (hn : 3 ≤ n ∧ n ≤ 8) : ∃ r : List (List Int), (r.length ≤ 1000 ∧ (∀ x ∈ r, x.length = n.toNat) ∧ r.Pairwise (fun x y => x < y) ∧ ∀ t ∈ trisOf n, qd n.toNat t ∈ r) ∧ ∀ k, 1100000 ≤ k → spec_caQuiddities.f k n = some r ∧ impl_allQuiddities.f k n = some r := by
 obtain ⟨N, rfl⟩ : ∃ N : Nat, n = N := ⟨n.toNat, by omega⟩
 have hg := quids_good N (by omega)
 unfold quidsGood at hg
 obtain ⟨ts, hts⟩ : ∃ ts, ts = trisOf (N : Int) := ⟨_, rfl⟩
 rw [← hts] at hg
 obtain ⟨r, hr⟩ : ∃ r, r = sortQ [] (ts.map (qd N)) := ⟨_, rfl⟩
 simp only [← hr, Bool.and_eq_true, decide_eq_true_eq, Bool.not_eq_true'] at hg
 obtain ⟨g1, g2, g3, g4⟩ := hg
 have gp := List.isPerm_iff.1 g2
 have gl := gp.length_eq
 rw [List.length_map] at gl
 have hq : ∀ x ∈ ts, ∀ k, 200 < k → spec_poQuiddity.f k N x = some (qd N x) ∧ impl_quiddity.f k N x = some (qd N x) := fun x hx k hk => by
  have h := qd_tells (N : Int) hn x (hts ▸ hx) k hk
  rwa [Int.toNat_natCast] at h
 have hs : r.Pairwise fun x y => x < y := by
  cases hc : r with
  | nil => simp
  | cons a l => rw [hc] at g1; exact adjQ_lt l a g1
 have hnd : (ts.map (qd N)).Nodup := gp.nodup_iff.1 (hs.imp (fun {x y} h e => by subst e; exact List.lt_irrefl _ h))
 have hsort : (ts.map (qd N)).mergeSort qLe = r := by
  refine List.Perm.eq_of_pairwise (le := fun x y => qLe x y = true) (fun a b _ _ h1 h2 => ?_) (List.pairwise_mergeSort (fun a b c h1 h2 => ?_) (fun a b => ?_) _) (hs.imp (fun {x y} h => ?_)) ((List.mergeSort_perm _ _).trans gp.symm)
  ·unfold qLe at h1 h2
   simp only [Bool.not_eq_true', decide_eq_false_iff_not, List.not_lt] at h1 h2
   exact List.le_antisymm h1 h2
  ·unfold qLe at h1 h2 ⊢
   simp only [Bool.not_eq_true', decide_eq_false_iff_not, List.not_lt] at h1 h2 ⊢
   exact List.le_trans h1 h2
  ·unfold qLe
   simp only [Bool.or_eq_true, Bool.not_eq_true', decide_eq_false_iff_not, List.not_lt]
   exact List.le_total a b
  ·unfold qLe
   simp only [Bool.not_eq_true', decide_eq_false_iff_not, List.not_lt]
   exact List.le_of_lt h
 refine ⟨r, ⟨by omega, fun x hx => ?_, hs, fun t ht => ?_⟩, fun k hk => ⟨?_, ?_⟩⟩
 ·obtain ⟨t, _, rfl⟩ := List.mem_map.1 (gp.mem_iff.1 hx)
  rw [qd_len]
  omega
 ·rw [Int.toNat_natCast]
  exact gp.mem_iff.2 (List.mem_map.2 ⟨t, hts ▸ ht, rfl⟩)
 ·unfold spec_caQuiddities.f
  have h := sort_rounds (N : Int) N (by omega) ts (by omega) (qd N) (fun x hx => ⟨qd_len N x, fun k hk => (hq x hx k hk).1⟩) 1010 rfl ts.length 0 k [] (by omega) rfl (fun x hx => by cases hx) (by omega)
  rw [List.drop_zero, ← hr] at h
  rw [poAll_tells _ hn, Option.bind_some, ← hts]
  exact h
 ·unfold impl_allQuiddities.f
  have h := list_rounds (N : Int) ts (by omega) (qd N) (fun x hx k hk => (hq x hx k hk).2) ts.length 0 k [] (by omega) rfl (by omega)
  rw [List.drop_zero, List.nil_append] at h
  rw [allTri_tells _ hn k (by omega), Option.bind_some, ← hts]
  refine h.trans ?_
  unfold slices_SortFunc_int_int.f
  have hne : (ts.map (qd N)).isEmpty = false := by
   rw [List.isEmpty_eq_false_iff]
   intro e
   rw [e] at gp
   have := gp.length_eq
   rw [List.isEmpty_eq_false_iff] at g4
   exact g4 (List.eq_nil_of_length_eq_zero (by simpa using this))
  rw [if_pos ⟨hne, by rw [List.length_map]; omega, hnd⟩, hsort]
  rfl
def idxOf {α : Type} (p : α → Bool) : List α → Nat → Int
 | [], _ => -1
 | x :: l, i => if p x = true then (i : Int) else idxOf p l (i + 1)
theorem idxOf_step {α : Type} (p : α → Bool) (d : α) (l : List α) (i : Nat) (h : i < l.length) : idxOf p (l.drop i) i = if p (l.getD i d) = true then (i : Int) else idxOf p (l.drop (i + 1)) (i + 1) := by
 rw [List.drop_eq_getElem_cons h, List.getD_eq_getElem?_getD, List.getElem?_eq_getElem h]
 rfl

theorem less_none (x : List Int) (l : List (List Int)) (h : ∀ y ∈ l, x < y) : l.countP (fun y => decide (y < x)) = 0 := by
 rw [List.countP_eq_zero]
 intro y hy
 rw [decide_eq_true_eq]
 exact fun h2 => List.lt_irrefl _ (List.lt_trans (h y hy) h2)
theorem rank_at (x : List Int) (l : List (List Int)) : ∀ i : Nat, l.Pairwise (fun a b => a < b) → x ∈ l → idxOf (fun y => decide (y = x)) l i = (i : Int) + ((l.countP fun y => decide (y < x) : Nat) : Int) := by
 induction l with
 | nil => intro i _ h; exact absurd h (by simp)
 | cons a l ih =>
  intro i hp hx
  obtain ⟨h1, h2⟩ := List.pairwise_cons.1 hp
  unfold idxOf
  rw [List.countP_cons]
  by_cases e : a = x
  ·subst e
   rw [if_pos (by simp), less_none a l h1, if_neg (by rw [decide_eq_true_eq]; exact List.lt_irrefl _)]
   simp
  ·have hm : x ∈ l := by
    rcases List.mem_cons.1 hx with h | h
    ·exact absurd h.symm e
    ·exact h
   rw [if_neg (by simpa using e), ih (i + 1) h2 hm, if_pos (by rw [decide_eq_true_eq]; exact h1 x hm)]
   omega

theorem dg_snoc (l : List DG) (d : DG) (c : Int) : dg (l ++ [d]) c = dg l c + (if d.f0 = c then 1 else 0) + if d.f1 = c then 1 else 0 := by
 rw [dg_perm (List.perm_append_comm (l₁ := l) (l₂ := [d])), List.singleton_append, dg_cons]
/-- What is left, and what has been cut. -/
structure Cut (n : Int) (q : Int → Int) (ns : List Int) (out : List DG) : Prop where
 rise : ns.Pairwise (· < ·)
 rng : ∀ c ∈ ns, 0 ≤ c ∧ c < n
 gone : ∀ c, 0 ≤ c → c < n → c ∉ ns → q c = 1 + dg out c
 ok : ∀ d ∈ out, 0 ≤ d.f0 ∧ d.f1 ≤ n - 1 ∧ 2 ≤ d.f1 - d.f0 ∧ d.f1 - d.f0 ≤ n - 2
 side : ∀ d ∈ out, (∀ c ∈ ns, d.f0 ≤ c ∧ c ≤ d.f1) ∨ (∀ c ∈ ns, c ≤ d.f0 ∨ d.f1 ≤ c)
 nc : ∀ d ∈ out, ∀ e ∈ out, ¬ (d.f0 < e.f0 ∧ e.f0 < d.f1 ∧ d.f1 < e.f1)
 new : out.Pairwise fun d e => ¬ (d.f0 = e.f0 ∧ d.f1 = e.f1)
 cnt : (out.length : Int) + ns.length = n
/-- The corner ahead, the corner behind. -/
def ahd (m i : Nat) : Nat := if i = 0 then m - 1 else i - 1
def bhd (m i : Nat) : Nat := if i = m - 1 then 0 else i + 1
def dOf (ns : List Int) (i : Nat) : DG := ⟨min (ns.getD (ahd ns.length i) 0) (ns.getD (bhd ns.length i) 0), max (ns.getD (ahd ns.length i) 0) (ns.getD (bhd ns.length i) 0)⟩
theorem getD_at (ns : List Int) (j : Nat) (h : j < ns.length) : ns.getD j 0 = ns[j] := by rw [List.getD_eq_getElem?_getD, List.getElem?_eq_getElem h]; rfl
/-- What the new diagonal is among the corners left. -/
theorem dOf_facts {n : Int} {ns : List Int} (hr : ns.Pairwise (· < ·)) (hg : ∀ c ∈ ns, 0 ≤ c ∧ c < n) (h4 : 4 ≤ ns.length) (i : Nat) (hi : i < ns.length) :
  (0 ≤ (dOf ns i).f0 ∧ (dOf ns i).f1 ≤ n - 1 ∧ 2 ≤ (dOf ns i).f1 - (dOf ns i).f0 ∧ (dOf ns i).f1 - (dOf ns i).f0 ≤ n - 2) ∧
  ((∀ c ∈ ns.eraseIdx i, (dOf ns i).f0 ≤ c ∧ c ≤ (dOf ns i).f1) ∨ (∀ c ∈ ns.eraseIdx i, c ≤ (dOf ns i).f0 ∨ (dOf ns i).f1 ≤ c)) ∧
  (∃ c ∈ ns, (dOf ns i).f0 < c ∧ c < (dOf ns i).f1) ∧ (∃ c ∈ ns, c < (dOf ns i).f0 ∨ (dOf ns i).f1 < c) ∧
  ((dOf ns i).f0 ∈ ns ∧ (dOf ns i).f1 ∈ ns) ∧ (ns[i] ≠ (dOf ns i).f0 ∧ ns[i] ≠ (dOf ns i).f1) := by
 have P : ∀ j k (hj : j < ns.length) (hk : k < ns.length), j < k → ns[j] < ns[k] := fun j k hj hk h => List.pairwise_iff_getElem.1 hr j k hj hk h
 have Q : ∀ j k (hj : j < ns.length) (hk : k < ns.length), j ≤ k → ns[j] ≤ ns[k] := fun j k hj hk h => by
  rcases Nat.lt_or_ge j k with c | c
  ·exact Int.le_of_lt (P j k hj hk c)
  ·have : j = k := by omega
   subst this
   exact Int.le_refl _
 have G : ∀ j (hj : j < ns.length), 0 ≤ ns[j] ∧ ns[j] < n := fun j hj => hg _ (List.getElem_mem _)
 have E : ∀ c ∈ ns.eraseIdx i, ∃ j, ∃ hj : j < ns.length, j ≠ i ∧ ns[j] = c := fun c hc => by
  obtain ⟨j, hj, hne, he⟩ := List.mem_eraseIdx_iff_getElem.1 hc
  exact ⟨j, hj, hne, he⟩
 by_cases c0 : i = 0
 ·subst c0
  have e0 : ahd ns.length 0 = ns.length - 1 := rfl
  have e1 : bhd ns.length 0 = 1 := by unfold bhd; rw [if_neg (by omega)]
  have hd : dOf ns 0 = ⟨ns[1], ns[ns.length - 1]⟩ := by
   have h := P 1 (ns.length - 1) (by omega) (by omega) (by omega)
   unfold dOf
   rw [e0, e1, getD_at ns _ (by omega), getD_at ns _ (by omega), Int.min_eq_right (by omega), Int.max_eq_left (by omega)]
  rw [hd]
  have h01 := P 0 1 (by omega) (by omega) (by omega)
  have h12 := P 1 2 (by omega) (by omega) (by omega)
  have h2m := P 2 (ns.length - 1) (by omega) (by omega) (by omega)
  have g0 := G 0 (by omega)
  have gm := G (ns.length - 1) (by omega)
  refine ⟨⟨by show 0 ≤ ns[1]; omega, by show ns[ns.length - 1] ≤ n - 1; omega, by show 2 ≤ ns[ns.length - 1] - ns[1]; omega, by show ns[ns.length - 1] - ns[1] ≤ n - 2; omega⟩, Or.inl (fun c hc => ?_), ⟨ns[2], List.getElem_mem _, h12, h2m⟩, ⟨ns[0], List.getElem_mem _, Or.inl h01⟩, ⟨List.getElem_mem _, List.getElem_mem _⟩, by show ns[0] ≠ ns[1]; omega, by show ns[0] ≠ ns[ns.length - 1]; omega⟩
  obtain ⟨j, hj, hne, rfl⟩ := E c hc
  exact ⟨Q 1 j (by omega) hj (by omega), Q j (ns.length - 1) hj (by omega) (by omega)⟩
 ·by_cases c1 : i = ns.length - 1
  ·have e0 : ahd ns.length i = i - 1 := by unfold ahd; rw [if_neg c0]
   have e1 : bhd ns.length i = 0 := by unfold bhd; rw [if_pos c1]
   have hd : dOf ns i = ⟨ns[0], ns[i - 1]⟩ := by
    have h := P 0 (i - 1) (by omega) (by omega) (by omega)
    unfold dOf
    rw [e0, e1, getD_at ns _ (by omega), getD_at ns _ (by omega), Int.min_eq_right (by omega), Int.max_eq_left (by omega)]
   rw [hd]
   have h01 := P 0 1 (by omega) (by omega) (by omega)
   have h12 := P 1 (i - 1) (by omega) (by omega) (by omega)
   have h2m := P (i - 1) i (by omega) (by omega) (by omega)
   have g0 := G 0 (by omega)
   have gm := G i (by omega)
   refine ⟨⟨by show 0 ≤ ns[0]; omega, by show ns[i - 1] ≤ n - 1; omega, by show 2 ≤ ns[i - 1] - ns[0]; omega, by show ns[i - 1] - ns[0] ≤ n - 2; omega⟩, Or.inl (fun c hc => ?_), ⟨ns[1], List.getElem_mem _, h01, h12⟩, ⟨ns[i], List.getElem_mem _, Or.inr h2m⟩, ⟨List.getElem_mem _, List.getElem_mem _⟩, by show ns[i] ≠ ns[0]; omega, by show ns[i] ≠ ns[i - 1]; omega⟩
   obtain ⟨j, hj, hne, rfl⟩ := E c hc
   exact ⟨Q 0 j (by omega) hj (by omega), Q j (i - 1) hj (by omega) (by omega)⟩
  ·have e0 : ahd ns.length i = i - 1 := by unfold ahd; rw [if_neg c0]
   have e1 : bhd ns.length i = i + 1 := by unfold bhd; rw [if_neg c1]
   have hd : dOf ns i = ⟨ns[i - 1], ns[i + 1]⟩ := by
    have h := P (i - 1) (i + 1) (by omega) (by omega) (by omega)
    unfold dOf
    rw [e0, e1, getD_at ns _ (by omega), getD_at ns _ (by omega), Int.min_eq_left (by omega), Int.max_eq_right (by omega)]
   rw [hd]
   have h01 := P (i - 1) i (by omega) (by omega) (by omega)
   have h12 := P i (i + 1) (by omega) (by omega) (by omega)
   have g0 := G (i - 1) (by omega)
   have gm := G (i + 1) (by omega)
   have hout : ∃ c ∈ ns, c < ns[i - 1] ∨ ns[i + 1] < c := by
    by_cases c2 : i = 1
    ·exact ⟨ns[3], List.getElem_mem _, Or.inr (by subst c2; exact P 2 3 (by omega) (by omega) (by omega))⟩
    ·exact ⟨ns[0], List.getElem_mem _, Or.inl (P 0 (i - 1) (by omega) (by omega) (by omega))⟩
   have hgap : ns[i + 1] - ns[i - 1] ≤ n - 2 := by
    obtain ⟨c, hc, h⟩ := hout
    have := hg c hc
    omega
   refine ⟨⟨by show 0 ≤ ns[i - 1]; omega, by show ns[i + 1] ≤ n - 1; omega, by show 2 ≤ ns[i + 1] - ns[i - 1]; omega, hgap⟩, Or.inr (fun c hc => ?_), ⟨ns[i], List.getElem_mem _, h01, h12⟩, hout, ⟨List.getElem_mem _, List.getElem_mem _⟩, by show ns[i] ≠ ns[i - 1]; omega, by show ns[i] ≠ ns[i + 1]; omega⟩
   obtain ⟨j, hj, hne, rfl⟩ := E c hc
   rcases Nat.lt_or_ge j i with h | h
   ·exact Or.inl (Q j (i - 1) hj (by omega) (by omega))
   ·exact Or.inr (Q (i + 1) j (by omega) hj (by omega))
theorem Cut.step {n : Int} {q : Int → Int} {ns : List Int} {out : List DG} (C : Cut n q ns out) (h4 : 4 ≤ ns.length) (i : Nat) (hi : i < ns.length) (h1 : q ns[i] - dg out ns[i] = 1) : Cut n q (ns.eraseIdx i) (out ++ [dOf ns i]) := by
 obtain ⟨F1, F2, ⟨u, hu, hu1, hu2⟩, ⟨v, hv, hv1⟩, ⟨m0, m1⟩, e0, e1⟩ := dOf_facts C.rise C.rng h4 i hi
 obtain ⟨d, hd⟩ : ∃ d, d = dOf ns i := ⟨_, rfl⟩
 rw [← hd] at F1 F2 hu1 hu2 hv1 m0 m1 e0 e1 ⊢
 have hsub : ∀ c ∈ ns.eraseIdx i, c ∈ ns := fun c hc => List.mem_of_mem_eraseIdx hc
 have hS : ∀ e ∈ out, ¬ (d.f0 < e.f0 ∧ e.f0 < d.f1 ∧ d.f1 < e.f1) ∧ ¬ (e.f0 < d.f0 ∧ d.f0 < e.f1 ∧ e.f1 < d.f1) ∧ ¬ (e.f0 = d.f0 ∧ e.f1 = d.f1) := fun e he => by
  have hk := C.ok e he
  rcases C.side e he with h | h
  ·have a0 := h _ m0
   have a1 := h _ m1
   have au := h _ hu
   have av := h _ hv
   omega
  ·have a0 := h _ m0
   have a1 := h _ m1
   have au := h _ hu
   have av := h _ hv
   omega
 refine ⟨C.rise.sublist (List.eraseIdx_sublist _ _), fun c hc => C.rng c (hsub c hc), ?_, ?_, ?_, ?_, ?_, ?_⟩
 ·intro c hc0 hc1 hc
  rw [dg_snoc]
  by_cases hm : c ∈ ns
  ·have hci : c = ns[i] := by
    obtain ⟨j, hj, rfl⟩ := List.getElem_of_mem hm
    by_cases hji : j = i
    ·subst hji; rfl
    ·exact absurd (List.mem_eraseIdx_iff_getElem.2 ⟨j, hj, hji, rfl⟩) hc
   subst hci
   rw [if_neg (show ¬ d.f0 = ns[i] from fun h => e0 h.symm), if_neg (show ¬ d.f1 = ns[i] from fun h => e1 h.symm)]
   omega
  ·have h2 := C.gone c hc0 hc1 hm
   rw [if_neg (show ¬ d.f0 = c from fun h => hm (h ▸ m0)), if_neg (show ¬ d.f1 = c from fun h => hm (h ▸ m1))]
   omega
 ·intro e he
  rcases List.mem_append.1 he with h | h
  ·exact C.ok e h
  ·rw [List.mem_singleton.1 h]; exact F1
 ·intro e he
  rcases List.mem_append.1 he with h | h
  ·rcases C.side e h with h2 | h2
   ·exact Or.inl (fun c hc => h2 c (hsub c hc))
   ·exact Or.inr (fun c hc => h2 c (hsub c hc))
  ·rw [List.mem_singleton.1 h]; exact F2
 ·intro e he f hf
  rcases List.mem_append.1 he with h | h <;> rcases List.mem_append.1 hf with h2 | h2
  ·exact C.nc e h f h2
  ·rw [List.mem_singleton.1 h2]; exact (hS e h).2.1
  ·rw [List.mem_singleton.1 h]; exact (hS f h2).1
  ·rw [List.mem_singleton.1 h, List.mem_singleton.1 h2]; omega
 ·rw [List.pairwise_append]
  refine ⟨C.new, by simp, fun e he f hf => ?_⟩
  rw [List.mem_singleton.1 hf]
  exact (hS e he).2.2
 ·have := C.cnt
  rw [List.length_append, List.length_singleton, List.length_eraseIdx, if_pos hi]
  omega

def p1 (x : Int) : Bool := decide (x = 1)
/-- What stands at the corners left. -/
def vl (q : Int → Int) (out : List DG) (ns : List Int) : List Int := ns.map fun c => wrap64 (q c - dg out c)
/-- The rounds: the first corner with a 1 is cut off, as often as told. -/
def ear (q : Int → Int) : Nat → List Int → List DG → Option (List Int × List DG)
 | 0, ns, out => some (ns, out)
 | e + 1, ns, out => if idxOf p1 (vl q out ns) 0 < 0 then none else ear q e (ns.eraseIdx (idxOf p1 (vl q out ns) 0).toNat) (out ++ [dOf ns (idxOf p1 (vl q out ns) 0).toNat])
theorem idxOf_at (l : List Int) : ∀ j : Nat, 0 ≤ idxOf p1 l j → ∃ i : Nat, ∃ hi : i < l.length, idxOf p1 l j = ((j + i : Nat) : Int) ∧ l[i] = 1 := by
 induction l with
 | nil => intro j h; simp [idxOf] at h
 | cons x l ih =>
  intro j h
  unfold idxOf at h ⊢
  by_cases hx : p1 x = true
  ·rw [if_pos hx]
   exact ⟨0, by simp, rfl, by simpa [p1] using hx⟩
  ·rw [if_neg hx] at h ⊢
   obtain ⟨i, hi, h1, h2⟩ := ih (j + 1) h
   exact ⟨i + 1, by simp; omega, by rw [h1]; congr 1; omega, by simpa using h2⟩
theorem wrap_id (x : Int) (h0 : -9223372036854775808 ≤ x) (h1 : x ≤ 9223372036854775807) : wrap64 x = x := by unfold wrap64; omega
theorem wrap_one (x d : Int) (h0 : -9223372036854775808 ≤ x) (h1 : x ≤ 9223372036854775807) (hd : 0 ≤ d ∧ d ≤ 1000) : wrap64 (x - d) = 1 ↔ x - d = 1 := by unfold wrap64; omega
theorem wrap_wrap (x : Int) : wrap64 (wrap64 x - 1) = wrap64 (x - 1) := by unfold wrap64; omega
theorem ear_snd {n : Int} {q : Int → Int} {out : List DG} {ns : List Int} (C : Cut n q ns out) (hn : n ≤ 12) (hq : ∀ c, 0 ≤ c → c < n → -9223372036854775808 ≤ q c ∧ q c ≤ 9223372036854775807) (h : ¬ idxOf p1 (vl q out ns) 0 < 0) :
  ∃ i : Nat, ∃ hi : i < ns.length, idxOf p1 (vl q out ns) 0 = (i : Int) ∧ q ns[i] - dg out ns[i] = 1 := by
 obtain ⟨i, hi, h1, h2⟩ := idxOf_at (vl q out ns) 0 (by omega)
 have hi' : i < ns.length := by unfold vl at hi; rwa [List.length_map] at hi
 refine ⟨i, hi', by rw [h1, Nat.zero_add], ?_⟩
 have h3 : wrap64 (q ns[i] - dg out ns[i]) = 1 := by
  simpa [vl] using h2
 have hr := C.rng ns[i] (List.getElem_mem _)
 have hb := hq _ hr.1 hr.2
 have hs := dg_bounds out ns[i]
 have hc := C.cnt
 exact (wrap_one _ _ hb.1 hb.2 (by omega)).1 h3
theorem ear_cut {n : Int} {q : Int → Int} (hn : n ≤ 12) (hq : ∀ c, 0 ≤ c → c < n → -9223372036854775808 ≤ q c ∧ q c ≤ 9223372036854775807) (e : Nat) : ∀ {ns : List Int} {out : List DG} {ns' : List Int} {out' : List DG}, Cut n q ns out → ns.length = e + 3 → ear q e ns out = some (ns', out') → Cut n q ns' out' ∧ ns'.length = 3 := by
 induction e with
 | zero =>
  intro ns out ns' out' C hl h
  simp only [ear, Option.some.injEq, Prod.mk.injEq] at h
  obtain ⟨rfl, rfl⟩ := h
  exact ⟨C, hl⟩
 | succ e ih =>
  intro ns out ns' out' C hl h
  simp only [ear] at h
  by_cases h0 : idxOf p1 (vl q out ns) 0 < 0
  ·rw [if_pos h0] at h
   exact absurd h (by simp)
  ·rw [if_neg h0] at h
   obtain ⟨i, hi, hf, h1⟩ := ear_snd C hn hq h0
   rw [hf, Int.toNat_natCast] at h
   exact ih (C.step (by omega) i hi h1) (by rw [List.length_eraseIdx, if_pos hi]; omega) h
theorem dg_mono (l : List DG) (d : DG) (c : Int) : dg l c ≤ dg (l ++ [d]) c := by
 rw [dg_snoc]
 split <;> split <;> omega
theorem mem_erase {ns : List Int} {i : Nat} (hi : i < ns.length) {c : Int} (hc : c ∈ ns) (hne : c ≠ ns[i]) : c ∈ ns.eraseIdx i := by
 obtain ⟨j, hj, rfl⟩ := List.getElem_of_mem hc
 refine List.mem_eraseIdx_iff_getElem.2 ⟨j, hj, fun h => ?_, rfl⟩
 subst h
 exact hne rfl
/-- What stands below 1 stays below 1. -/
theorem ear_bad {n : Int} {q : Int → Int} (hn : n ≤ 12) (hq : ∀ c, 0 ≤ c → c < n → -9223372036854775808 ≤ q c ∧ q c ≤ 9223372036854775807) (e : Nat) : ∀ {ns : List Int} {out : List DG} {ns' : List Int} {out' : List DG}, Cut n q ns out → ns.length = e + 3 → (∃ c ∈ ns, q c - dg out c < 1) → ear q e ns out = some (ns', out') → ∃ c ∈ ns', q c - dg out' c < 1 := by
 induction e with
 | zero =>
  intro ns out ns' out' _ _ hb h
  simp only [ear, Option.some.injEq, Prod.mk.injEq] at h
  obtain ⟨rfl, rfl⟩ := h
  exact hb
 | succ e ih =>
  intro ns out ns' out' C hl ⟨c, hc, hb⟩ h
  simp only [ear] at h
  by_cases h0 : idxOf p1 (vl q out ns) 0 < 0
  ·rw [if_pos h0] at h
   exact absurd h (by simp)
  ·rw [if_neg h0] at h
   obtain ⟨i, hi, hf, h1⟩ := ear_snd C hn hq h0
   rw [hf, Int.toNat_natCast] at h
   refine ih (C.step (by omega) i hi h1) (by rw [List.length_eraseIdx, if_pos hi]; omega) ⟨c, mem_erase hi hc (fun h2 => ?_), ?_⟩ h
   ·subst h2; omega
   ·have := dg_mono out (dOf ns i) c
    omega
theorem getD_set (l : List Int) (a : Nat) (v : Int) (j : Nat) (ha : a < l.length) : (l.set a v).getD j 0 = if j = a then v else l.getD j 0 := by
 rw [List.getD_eq_getElem?_getD, List.getD_eq_getElem?_getD, List.getElem?_set]
 by_cases h : j = a
 ·subst h; simp [ha]
 ·rw [if_neg (by omega), if_neg h]
theorem vl_at (q : Int → Int) (out : List DG) (ns : List Int) (j : Nat) (h : j < ns.length) : (vl q out ns).getD j 0 = wrap64 (q ns[j] - dg out ns[j]) := by
 rw [List.getD_eq_getElem?_getD, List.getElem?_eq_getElem (by unfold vl; rw [List.length_map]; exact h)]
 simp [vl]
theorem erase_ext (l m : List Int) (i : Nat) (hl : l.length = m.length) (h : ∀ j, j < l.length → j ≠ i → l.getD j 0 = m.getD j 0) : l.eraseIdx i = m.eraseIdx i := by
 have e : l.set i 0 = m.set i 0 := by
  apply List.ext_getElem (by simpa using hl)
  intro j h1 h2
  rw [List.length_set] at h1 h2
  by_cases hj : j = i
  ·subst hj
   rw [List.getElem_set_self, List.getElem_set_self]
  ·rw [List.getElem_set_ne (by omega), List.getElem_set_ne (by omega)]
   have := h j h1 hj
   rw [getD_at l j h1, getD_at m j h2] at this
   exact this
 rw [← List.eraseIdx_set_eq (l := l) (i := i) (a := 0), e, List.eraseIdx_set_eq]
theorem ahd_lt (m i : Nat) (h : i < m) : ahd m i < m := by unfold ahd; split <;> omega
theorem bhd_lt (m i : Nat) (h : i < m) (h4 : 4 ≤ m) : bhd m i < m := by unfold bhd; split <;> omega
theorem ahd_ne (m i : Nat) (h : i < m) (h4 : 4 ≤ m) : ahd m i ≠ bhd m i ∧ ahd m i ≠ i ∧ bhd m i ≠ i := by
 unfold ahd bhd
 by_cases h0 : i = 0
 ·rw [if_pos h0, if_neg (by omega)]; omega
 ·by_cases h1 : i = m - 1
  ·rw [if_neg h0, if_pos h1]; omega
  ·rw [if_neg h0, if_neg h1]; omega
theorem map_erase {α β : Type} (f : α → β) (l : List α) (i : Nat) : (l.eraseIdx i).map f = (l.map f).eraseIdx i := by
 rw [List.eraseIdx_eq_take_drop_succ, List.eraseIdx_eq_take_drop_succ, List.map_append, List.map_take, List.map_drop]
/-- The list with one less at both neighbours. -/
def less2 (X : List Int) (a b : Nat) : List Int := (X.set a (wrap64 (X.getD a 0 - 1))).set b (wrap64 ((X.set a (wrap64 (X.getD a 0 - 1))).getD b 0 - 1))
theorem less2_len (X : List Int) (a b : Nat) : (less2 X a b).length = X.length := by unfold less2; rw [List.length_set, List.length_set]
theorem vl_pt {n : Int} {q : Int → Int} {ns : List Int} {out : List DG} (C : Cut n q ns out) (h4 : 4 ≤ ns.length) (i : Nat) (hi : i < ns.length) :
  ∀ j (hj : j < ns.length), j ≠ i → (less2 (vl q out ns) (ahd ns.length i) (bhd ns.length i)).getD j 0 = wrap64 (q ns[j] - dg (out ++ [dOf ns i]) ns[j]) := by
 have ha := ahd_lt ns.length i hi
 have hb := bhd_lt ns.length i hi h4
 obtain ⟨n1, n2, n3⟩ := ahd_ne ns.length i hi h4
 obtain ⟨a, ea⟩ : ∃ a, a = ahd ns.length i := ⟨_, rfl⟩
 obtain ⟨b, eb⟩ : ∃ b, b = bhd ns.length i := ⟨_, rfl⟩
 have hv : (vl q out ns).length = ns.length := by unfold vl; rw [List.length_map]
 have inj : ∀ j k (hj : j < ns.length) (hk : k < ns.length), ns[j] = ns[k] → j = k := fun j k hj hk h => by
  rcases Nat.lt_trichotomy j k with c | c | c
  ·have := List.pairwise_iff_getElem.1 C.rise j k hj hk c; omega
  ·exact c
  ·have := List.pairwise_iff_getElem.1 C.rise k j hk hj c; omega
 rw [← ea] at ha n1 n2
 rw [← eb] at hb n1 n3
 rw [← ea, ← eb]
 have hd : (dOf ns i).f0 = min ns[a] ns[b] ∧ (dOf ns i).f1 = max ns[a] ns[b] := by
  unfold dOf
  rw [← ea, ← eb, getD_at ns a ha, getD_at ns b hb]
  exact ⟨rfl, rfl⟩
 intro j hj hji
 unfold less2
 rw [getD_set _ _ _ _ (by rw [List.length_set]; omega), getD_set _ _ _ _ (by omega), getD_set _ _ _ _ (by omega), vl_at _ _ _ j hj, vl_at _ _ _ a ha, vl_at _ _ _ b hb, dg_snoc, hd.1, hd.2, if_neg (by omega : ¬ b = a), wrap_wrap, wrap_wrap]
 by_cases h1 : j = b
 ·subst h1
  rw [if_pos rfl]
  have : ¬ ns[a] = ns[j] := fun h => n1 (inj _ _ ha hb h)
  by_cases hh : ns[a] < ns[j]
  ·rw [Int.min_eq_left (by omega), Int.max_eq_right (by omega), if_neg this, if_pos rfl]; congr 1; omega
  ·rw [Int.min_eq_right (by omega), Int.max_eq_left (by omega), if_neg this, if_pos rfl]; congr 1; omega
 ·rw [if_neg h1]
  have hjb : ¬ ns[b] = ns[j] := fun h => h1 (inj _ _ hb hj h).symm
  by_cases h2 : j = a
  ·subst h2
   rw [if_pos rfl]
   by_cases hh : ns[j] < ns[b]
   ·rw [Int.min_eq_left (by omega), Int.max_eq_right (by omega), if_neg hjb, if_pos rfl]; congr 1; omega
   ·rw [Int.min_eq_right (by omega), Int.max_eq_left (by omega), if_neg hjb, if_pos rfl]; congr 1; omega
  ·rw [if_neg h2]
   have hja : ¬ ns[a] = ns[j] := fun h => h2 (inj _ _ ha hj h).symm
   rw [show (if min ns[a] ns[b] = ns[j] then (1 : Int) else 0) = 0 by rw [if_neg]; omega, show (if max ns[a] ns[b] = ns[j] then (1 : Int) else 0) = 0 by rw [if_neg]; omega]
   congr 1
/-- The two neighbours lose one; the corner goes. -/
theorem vl_step {n : Int} {q : Int → Int} {ns : List Int} {out : List DG} (C : Cut n q ns out) (h4 : 4 ≤ ns.length) (i : Nat) (hi : i < ns.length) :
  (less2 (vl q out ns) (ahd ns.length i) (bhd ns.length i)).eraseIdx i = vl q (out ++ [dOf ns i]) (ns.eraseIdx i) := by
 have hv : (vl q out ns).length = ns.length := by unfold vl; rw [List.length_map]
 rw [show vl q (out ++ [dOf ns i]) (ns.eraseIdx i) = (vl q (out ++ [dOf ns i]) ns).eraseIdx i from map_erase _ _ _]
 have hv2 : (vl q (out ++ [dOf ns i]) ns).length = ns.length := by unfold vl; rw [List.length_map]
 refine erase_ext _ _ i (by rw [less2_len]; omega) (fun j hj hji => ?_)
 rw [less2_len, hv] at hj
 rw [vl_pt C h4 i hi j hj hji, vl_at _ _ _ j hj]
theorem Cut.small {n : Int} {q : Int → Int} {ns : List Int} {out : List DG} (C : Cut n q ns out) (hn : n ≤ 12) (c : Int) : 0 ≤ dg out c ∧ dg out c ≤ 1000 := by
 have h1 := dg_bounds out c
 have h2 := C.cnt
 omega
/-- One has as many ends of its diagonals as it has diagonals there. -/
theorem dg_le (l : List DG) (h : ∀ d ∈ l, d.f0 < d.f1) (c : Int) : dg l c ≤ (l.length : Int) := by
 induction l with
 | nil => simp [dg]
 | cons d l ih =>
  have h1 := h d (List.mem_cons_self ..)
  have h2 := ih (fun x hx => h x (List.mem_cons_of_mem _ hx))
  rw [dg_cons, List.length_cons]
  by_cases e0 : d.f0 = c
  ·rw [if_pos e0, if_neg (by omega)]; omega
  ·rw [if_neg e0]; split <;> omega
/-- At the end: one each. -/
theorem Cut.fin {n : Int} {q : Int → Int} {ns : List Int} {out : List DG} (C : Cut n q ns out) (h3 : 3 ≤ n ∧ n ≤ 12) (hq : ∀ c, 0 ≤ c → c < n → -9223372036854775808 ≤ q c ∧ q c ≤ 9223372036854775807) (h : ∀ c ∈ ns, q c - dg out c = 1) : ∀ c, 0 ≤ c → c < n → q c = 1 + dg out c := by
 intro c h0 h1
 by_cases hc : c ∈ ns
 ·have := h c hc; omega
 ·exact C.gone c h0 h1 hc
theorem all1 {n : Int} {q : Int → Int} {ns : List Int} {out : List DG} (C : Cut n q ns out) (h3 : 3 ≤ n ∧ n ≤ 12) (hq : ∀ c, 0 ≤ c → c < n → -9223372036854775808 ≤ q c ∧ q c ≤ 9223372036854775807) (hl : ns.length = 3) : vl q out ns = [1, 1, 1] ↔ ∀ c ∈ ns, q c - dg out c = 1 := by
 obtain ⟨a, b, c, rfl⟩ : ∃ a b c, ns = [a, b, c] := by
  match ns, hl with
  | [a, b, c], _ => exact ⟨a, b, c, rfl⟩
 have ra := C.rng a (by simp)
 have rb := C.rng b (by simp)
 have rc := C.rng c (by simp)
 have wa := wrap_one (q a) (dg out a) (hq a ra.1 ra.2).1 (hq a ra.1 ra.2).2 (C.small h3.2 a)
 have wb := wrap_one (q b) (dg out b) (hq b rb.1 rb.2).1 (hq b rb.1 rb.2).2 (C.small h3.2 b)
 have wc := wrap_one (q c) (dg out c) (hq c rc.1 rc.2).1 (hq c rc.1 rc.2).2 (C.small h3.2 c)
 simp only [vl, List.map_cons, List.map_nil, List.cons.injEq, and_true, wa, wb, wc, List.mem_cons, List.not_mem_nil, or_false, forall_eq_or_imp, forall_eq]
theorem Cut.start (n : Int) (q : Int → Int) (h3 : 3 ≤ n ∧ n ≤ 12) : Cut n q ((List.range n.toNat).map fun i : Nat => (i : Int)) [] where
 rise := by
  rw [List.pairwise_map]
  exact List.pairwise_lt_range.imp (fun h => by omega)
 rng := fun c hc => by
  obtain ⟨i, hi, rfl⟩ := List.mem_map.1 hc
  rw [List.mem_range] at hi
  omega
 gone := fun c h0 h1 hc => absurd (List.mem_map.2 ⟨c.toNat, List.mem_range.2 (by omega), Int.toNat_of_nonneg h0⟩) hc
 ok := by simp
 side := by simp
 nc := by simp
 new := by simp
 cnt := by rw [List.length_nil, List.length_map, List.length_range]; omega
/-- Sorted, what has been cut is a triangulation. -/
theorem Cut.tri {n : Int} {q : Int → Int} {ns : List Int} {out s : List DG} (C : Cut n q ns out) (h3 : 3 ≤ n ∧ n ≤ 12) (hl : ns.length = 3) (hp : out.Perm s) (hs : s.Pairwise fun d e => d.f0 < e.f0 ∨ (d.f0 = e.f0 ∧ d.f1 ≤ e.f1)) : Tri n s where
 n3 := h3
 len := by
  have := C.cnt
  rw [← hp.length_eq]
  omega
 ok := fun d hd => C.ok d (hp.mem_iff.2 hd)
 nc := fun d hd e he => C.nc d (hp.mem_iff.2 hd) e (hp.mem_iff.2 he)
 sorted := by
  have h1 : s.Pairwise fun d e => ¬ (d.f0 = e.f0 ∧ d.f1 = e.f1) := hp.pairwise C.new (fun h h2 => h ⟨h2.1.symm, h2.2.symm⟩)
  exact (hs.and h1).imp (fun ⟨a, b⟩ => by omega)

theorem rd_nat (l : List Int) (j : Nat) : rd l (j : Int) = l.getD j 0 := rfl
theorem mod_a (m i : Nat) (hi : i < m) (h4 : 4 ≤ m) (h12 : m ≤ 12) : Int.tmod (wrap64 ((wrap64 ((i : Int) + (m : Int))) - 1)) (m : Int) = ((ahd m i : Nat) : Int) := by
 have w : wrap64 ((wrap64 ((i : Int) + (m : Int))) - 1) = (i : Int) + (m : Int) - 1 := by unfold wrap64; omega
 rw [w, Int.tmod_eq_emod_of_nonneg (by omega)]
 have : m = 4 ∨ m = 5 ∨ m = 6 ∨ m = 7 ∨ m = 8 ∨ m = 9 ∨ m = 10 ∨ m = 11 ∨ m = 12 := by omega
 unfold ahd
 rcases this with rfl | rfl | rfl | rfl | rfl | rfl | rfl | rfl | rfl <;> split <;> omega
theorem mod_b (m i : Nat) (hi : i < m) (h4 : 4 ≤ m) (h12 : m ≤ 12) : Int.tmod (wrap64 ((i : Int) + 1)) (m : Int) = ((bhd m i : Nat) : Int) := by
 have w : wrap64 ((i : Int) + 1) = (i : Int) + 1 := by unfold wrap64; omega
 rw [w, Int.tmod_eq_emod_of_nonneg (by omega)]
 have : m = 4 ∨ m = 5 ∨ m = 6 ∨ m = 7 ∨ m = 8 ∨ m = 9 ∨ m = 10 ∨ m = 11 ∨ m = 12 := by omega
 unfold bhd
 rcases this with rfl | rfl | rfl | rfl | rfl | rfl | rfl | rfl | rfl <;> split <;> omega
theorem index_rounds (X : List Int) (hX : X.length ≤ 1000) : ∀ (d j k : Nat), j + d = X.length → d < k → slices_Index_int_int.l0 k X 1 (X.length : Int) (j : Int) = some (idxOf p1 (X.drop j) j)
 | 0, j, k, hj, hk => by
  obtain ⟨k, rfl⟩ : ∃ q, k = q + 1 := ⟨k - 1, by omega⟩
  simp only [slices_Index_int_int.l0]
  rw [if_neg (by omega), List.drop_of_length_le (by omega)]
  rfl
 | d + 1, j, k, hj, hk => by
  obtain ⟨k, rfl⟩ : ∃ q, k = q + 1 := ⟨k - 1, by omega⟩
  simp only [slices_Index_int_int.l0]
  rw [if_pos (by omega), if_pos (by omega), if_pos (by omega), wrap_succ j (by omega), index_rounds X hX d (j + 1) k (by omega) (by omega), idxOf_step p1 0 X j (by omega), rd_nat]
  unfold p1
  by_cases h : X.getD j 0 = 1
  ·rw [if_pos h.symm, if_pos (decide_eq_true h)]
  ·rw [if_neg (fun e => h e.symm), if_neg (by simpa using h)]
theorem index_tells (X : List Int) (hX : X.length ≤ 1000) (k : Nat) (hk : X.length < k) : slices_Index_int_int.f k X 1 = some (idxOf p1 X 0) := by
 have h := index_rounds X hX X.length 0 k (by omega) hk
 rw [List.drop_zero] at h
 exact h
theorem delete_tells (X : List Int) (i : Nat) (hi : i < X.length) (hX : X.length ≤ 1000) : slices_Delete_int_int.f X (i : Int) (wrap64 ((i : Int) + 1)) = some (X.eraseIdx i) := by
 unfold slices_Delete_int_int.f
 have w : wrap64 ((i : Int) + 1) = (i : Int) + 1 := by unfold wrap64; omega
 rw [w, if_pos ⟨by omega, rfl, by omega⟩, Int.toNat_natCast]
theorem mnmin (a b : Int) : mn a b = min a b := by unfold mn; split <;> omega
theorem mxmax (a b : Int) : mx a b = max a b := by unfold mx; split <;> omega
theorem l1_step (x0 X ns : List Int) (out : List DG) (m i k : Nat) (hX : X.length = m) (hn : ns.length = m) (h4 : 4 ≤ m) (h12 : m ≤ 12) (hi : i < m) (ho : out.length ≤ 1000) (hk : 20 < k) (hidx : idxOf p1 X 0 = (i : Int)) :
  impl_triangulation.l1 (k + 1) x0 X ns out (m : Int) = impl_triangulation.l1 k x0 ((less2 X (ahd m i) (bhd m i)).eraseIdx i) (ns.eraseIdx i) (out ++ [dOf ns i]) ((m - 1 : Nat) : Int) := by
 have ha := ahd_lt m i hi
 have hb := bhd_lt m i hi h4
 have hl := less2_len X (ahd m i) (bhd m i)
 have e1 : wrap64 ((m : Int) - 1) = ((m - 1 : Nat) : Int) := by unfold wrap64; omega
 simp only [impl_triangulation.l1]
 rw [if_pos (by omega), index_tells X (by omega) k (by omega), hidx, Option.bind_some, if_neg (by omega), if_neg (by omega), mod_a m i hi h4 h12, mod_b m i hi h4 h12, if_pos (by omega), if_pos (by omega), Option.bind_some, if_pos (by omega), if_pos (by omega), if_pos (by omega), if_pos (by omega), if_pos (by omega), e1]
 simp only [Int.toNat_natCast, rd_nat]
 rw [show (X.set (ahd m i) (wrap64 (X.getD (ahd m i) 0 - 1))).set (bhd m i) (wrap64 ((X.set (ahd m i) (wrap64 (X.getD (ahd m i) 0 - 1))).getD (bhd m i) 0 - 1)) = less2 X (ahd m i) (bhd m i) from rfl, delete_tells _ i (by omega) (by omega), Option.bind_some, delete_tells _ i (by omega) (by omega), Option.bind_some]
 have e2 : (⟨mn (ns.getD (ahd m i) 0) (ns.getD (bhd m i) 0), mx (ns.getD (ahd m i) 0) (ns.getD (bhd m i) 0)⟩ : DG) = dOf ns i := by
  unfold dOf
  rw [mnmin, mxmax, hn]
 rw [e2]
theorem vl_len (q : Int → Int) (out : List DG) (ns : List Int) : (vl q out ns).length = ns.length := by unfold vl; rw [List.length_map]
theorem tri_rounds {n : Int} {q : Int → Int} (hn : n ≤ 12) (hq : ∀ c, 0 ≤ c → c < n → -9223372036854775808 ≤ q c ∧ q c ≤ 9223372036854775807) (x0 : List Int) (e : Nat) : ∀ (ns : List Int) (out : List DG) (k : Nat), Cut n q ns out → ns.length = e + 3 → 30 < k →
  impl_triangulation.l1 (k + e) x0 (vl q out ns) ns out (ns.length : Int) = match ear q e ns out with
   | none => some ([], false)
   | some (ns', out') => impl_triangulation.l1 k x0 (vl q out' ns') ns' out' 3 := by
 induction e with
 | zero =>
  intro ns out k C hl hk
  simp only [ear, hl]
  rfl
 | succ e ih =>
  intro ns out k C hl hk
  have hc := C.cnt
  have hg : ∀ c ∈ ns, 0 ≤ c ∧ c < n := C.rng
  have hm : ns.length ≤ 12 := by omega
  simp only [ear]
  by_cases h0 : idxOf p1 (vl q out ns) 0 < 0
  ·rw [if_pos h0]
   rw [← Nat.add_assoc]
   simp only [impl_triangulation.l1]
   rw [if_pos (by omega), index_tells _ (by rw [vl_len]; omega) _ (by rw [vl_len]; omega), Option.bind_some, if_pos h0]
  ·rw [if_neg h0]
   obtain ⟨i, hi, hf, h1⟩ := ear_snd C hn hq h0
   have hs := l1_step x0 (vl q out ns) ns out ns.length i (k + e) (vl_len _ _ _) rfl (by omega) (by omega) hi (by omega) (by omega) hf
   rw [vl_step C (by omega) i hi] at hs
   have hlen : (ns.eraseIdx i).length = e + 3 := by rw [List.length_eraseIdx, if_pos hi]; omega
   rw [← Nat.add_assoc, hs, hf, Int.toNat_natCast, show ns.length - 1 = (ns.eraseIdx i).length by omega]
   exact ih _ _ k (C.step (by omega) i hi h1) hlen hk
theorem equal_rounds (l m : List Int) (hl : l.length = m.length) (hb : l.length ≤ 1000) : ∀ (d j k : Nat), j + d = l.length → d < k → slices_Equal_int_int.l0 k l m (l.length : Int) (j : Int) = some (decide (l.drop j = m.drop j))
 | 0, j, k, hj, hk => by
  obtain ⟨k, rfl⟩ : ∃ q, k = q + 1 := ⟨k - 1, by omega⟩
  simp only [slices_Equal_int_int.l0]
  rw [if_neg (by omega), List.drop_of_length_le (show l.length ≤ j by omega), List.drop_of_length_le (show m.length ≤ j by omega)]
  simp
 | d + 1, j, k, hj, hk => by
  obtain ⟨k, rfl⟩ : ∃ q, k = q + 1 := ⟨k - 1, by omega⟩
  simp only [slices_Equal_int_int.l0]
  rw [if_pos (by omega), if_pos (by omega), if_pos (by omega), if_pos (by omega), wrap_succ j (by omega), equal_rounds l m hl hb d (j + 1) k (by omega) (by omega), rd_nat, rd_nat, getD_drop l 0 j (by omega), getD_drop m 0 j (by omega)]
  by_cases h : l.getD j 0 = m.getD j 0
  ·rw [if_pos h]
   congr 1
   rw [decide_eq_decide, h]
   simp
  ·rw [if_neg h]
   congr 1
   symm
   rw [decide_eq_false_iff_not]
   intro e
   injection e with e1 _
   exact h e1
theorem equal_tells (l m : List Int) (hb : l.length ≤ 1000) (k : Nat) (hk : l.length < k) : slices_Equal_int_int.f k l m = some (decide (l = m)) := by
 unfold slices_Equal_int_int.f
 by_cases h : l.length = m.length
 ·rw [if_pos (by omega)]
  have := equal_rounds l m h hb l.length 0 k (by omega) hk
  simpa using this
 ·rw [if_neg (by omega)]
  congr 1
  symm
  rw [decide_eq_false_iff_not]
  intro e
  exact h (congrArg _ e)
/-- The list is a quiddity. -/
def earOk (q : Int → Int) (n : Nat) : Bool := match ear q (n - 3) ((List.range n).map fun i : Nat => (i : Int)) [] with
 | none => false
 | some (ns', out') => decide (vl q out' ns' = [1, 1, 1])
/-- At the end the program compares. -/
theorem tri_end (x0 : List Int) {n : Int} (h3 : 3 ≤ n ∧ n ≤ 12) (hx : (x0.length : Int) = n) (hq : ∀ c, 0 ≤ c → c < n → -9223372036854775808 ≤ rd x0 c ∧ rd x0 c ≤ 9223372036854775807) {ns : List Int} {out : List DG} (C : Cut n (rd x0) ns out) (hl : ns.length = 3) :
  ∃ K, ∀ k, K ≤ k → ∃ r, impl_triangulation.l1 k x0 (vl (rd x0) out ns) ns out 3 = some (r, decide (vl (rd x0) out ns = [1, 1, 1])) := by
 have hc := C.cnt
 obtain ⟨s, hs, hsort, hperm⟩ := sortFunc_tells out (by omega) 500 (by omega)
 have T := C.tri h3 hl hperm.symm (hsort.imp (fun h => h))
 obtain ⟨K1, hK1⟩ := isTri_tells n s (by have := hperm.length_eq; omega)
 obtain ⟨R, r1, r2, r3⟩ := quiddity_tells n s h3 (by have := hperm.length_eq; omega) (fun d hd => by have := T.ok d hd; omega)
 refine ⟨K1 + 2000, fun k hk => ?_⟩
 obtain ⟨k, rfl⟩ : ∃ q, k = q + 1 := ⟨k - 1, by omega⟩
 obtain ⟨s', hs', hsort', hperm'⟩ := sortFunc_tells out (by omega) k (by omega)
 have es : s' = s := sorted_unique (hperm'.trans hperm.symm) hsort' hsort
 rw [es] at hs'
 simp only [impl_triangulation.l1]
 rw [if_neg (by omega), hs', Option.bind_some, equal_tells _ _ (by rw [vl_len]; omega) k (by rw [vl_len]; omega), Option.bind_some]
 by_cases h : vl (rd x0) out ns = [1, 1, 1]
 ·have hall := C.fin h3 hq ((all1 C h3 hq hl).1 h)
  have hgood : isTriB n s = true := by
   unfold isTriB
   rw [good_tri n s T, decide_eq_true h3, decide_eq_true T.len]
   rfl
  have hR : R = x0 := ext_rd _ _ (by omega) (fun i h0 h1 => by
   rw [r2 i h0 (by omega), hall i h0 (by omega), dg_perm hperm])
  have q1 : impl_IsTriangulation.f k (x0.length : Int) s = some true := by
   rw [hx, ← hgood]
   exact hK1 k (by omega)
  have q2 : impl_quiddity.f k (x0.length : Int) s = some x0 := by
   rw [hx, ← hR]
   have hk2 : s.length + 20 < k := by have := hperm.length_eq; omega
   first
   | exact r3 k hk2
   | exact (r3 k hk2).2
  rw [if_pos (decide_eq_true h), q1, Option.bind_some, if_pos rfl, q2, Option.bind_some, equal_tells _ _ (by omega) k (by omega), Option.bind_some, if_pos (decide_eq_true rfl), decide_eq_true h]
  exact ⟨_, rfl⟩
 ·rw [if_neg (by simpa using h), decide_eq_false h]
  exact ⟨_, rfl⟩
theorem names_rounds (x0 x4 : List Int) (x6 : List DG) (N : Nat) (hN : N ≤ 1000) : ∀ (d j k : Nat), j + d = N → impl_triangulation.l0 (k + d + 1) x0 x4 ((List.range j).map fun i : Nat => (i : Int)) x6 (N : Int) (j : Int) = impl_triangulation.l1 k x0 x4 ((List.range N).map fun i : Nat => (i : Int)) x6 (x4.length : Int)
 | 0, j, k, hj => by
  simp only [impl_triangulation.l0]
  rw [if_neg (by omega), show j = N by omega]
 | d + 1, j, k, hj => by
  rw [show k + (d + 1) + 1 = (k + d + 1) + 1 by omega]
  simp only [impl_triangulation.l0]
  rw [if_pos (by omega), if_pos (by rw [List.length_map, List.length_range]; omega), wrap_succ j (by omega)]
  have h := names_rounds x0 x4 x6 N hN d (j + 1) k (by omega)
  rw [List.range_succ, List.map_append] at h
  exact h
theorem start_vl (x0 : List Int) (hq : ∀ c : Int, 0 ≤ c → c < (x0.length : Int) → -9223372036854775808 ≤ rd x0 c ∧ rd x0 c ≤ 9223372036854775807) : vl (rd x0) [] ((List.range x0.length).map fun i : Nat => (i : Int)) = x0 := by
 have hnl : ((List.range x0.length).map fun i : Nat => (i : Int)).length = x0.length := by rw [List.length_map, List.length_range]
 refine ext_rd _ _ (by rw [vl_len, hnl]) (fun i h0 h1 => ?_)
 rw [vl_len, hnl] at h1
 have hb := hq i h0 (by omega)
 have e : i = ((i.toNat : Nat) : Int) := by omega
 have w : wrap64 (rd x0 i) = rd x0 i := wrap_id _ hb.1 hb.2
 rw [e, rd_nat, vl_at _ _ _ _ (by rw [hnl]; omega)]
 simpa [dg, ← e] using w
theorem triangulation_tells (x0 : List Int) (hq : ∀ c : Int, 0 ≤ c → c < (x0.length : Int) → -9223372036854775808 ≤ rd x0 c ∧ rd x0 c ≤ 9223372036854775807) (hl : x0.length ≤ 1048576) :
  ∃ K, ∀ k, K ≤ k → ∃ r, impl_triangulation.f k x0 = some (r, decide (3 ≤ (x0.length : Int) ∧ (x0.length : Int) ≤ 12) && earOk (rd x0) x0.length) := by
 by_cases h3 : 3 ≤ (x0.length : Int) ∧ (x0.length : Int) ≤ 12
 ·have C := Cut.start (x0.length : Int) (rd x0) h3
  rw [Int.toNat_natCast] at C
  have hnl : ((List.range x0.length).map fun i : Nat => (i : Int)).length = x0.length - 3 + 3 := by rw [List.length_map, List.length_range]; omega
  have hv : vl (rd x0) [] ((List.range x0.length).map fun i : Nat => (i : Int)) = x0 := start_vl x0 hq
  have hfin : ∃ K, ∀ k, K ≤ k → ∃ r, (match ear (rd x0) (x0.length - 3) ((List.range x0.length).map fun i : Nat => (i : Int)) [] with
   | none => some (([] : List DG), false)
   | some (ns', out') => impl_triangulation.l1 k x0 (vl (rd x0) out' ns') ns' out' 3) = some (r, earOk (rd x0) x0.length) := by
   unfold earOk
   cases he : ear (rd x0) (x0.length - 3) ((List.range x0.length).map fun i : Nat => (i : Int)) [] with
   | none => exact ⟨0, fun k _ => ⟨_, rfl⟩⟩
   | some p =>
    obtain ⟨ns', out'⟩ := p
    obtain ⟨C', h3'⟩ := ear_cut h3.2 hq _ C hnl he
    exact tri_end x0 h3 rfl hq C' h3'
  obtain ⟨K, hK⟩ := hfin
  refine ⟨K + 2 * x0.length + 50, fun k hk => ?_⟩
  obtain ⟨r, hr⟩ := hK (k - (x0.length - 3) - (x0.length + 1)) (by omega)
  refine ⟨r, ?_⟩
  have h1 := names_rounds x0 x0 [] x0.length (by omega) x0.length 0 (k - (x0.length + 1)) (by omega)
  have h2 := tri_rounds h3.2 hq x0 (x0.length - 3) _ [] (k - (x0.length - 3) - (x0.length + 1)) C hnl (by omega)
  rw [hv, hr, hnl, show k - (x0.length - 3) - (x0.length + 1) + (x0.length - 3) = k - (x0.length + 1) by omega, show x0.length - 3 + 3 = x0.length by omega] at h2
  rw [show k - (x0.length + 1) + x0.length + 1 = k by omega, h2] at h1
  unfold impl_triangulation.f slices_Clone_int_int.f
  rw [isPolygon_tells, decide_eq_true h3, Option.bind_some, if_pos rfl, if_pos (by omega), Option.bind_some, Bool.true_and]
  exact h1
 ·refine ⟨0, fun k _ => ⟨[], ?_⟩⟩
  unfold impl_triangulation.f
  rw [isPolygon_tells, decide_eq_false h3, Option.bind_some, if_neg (by simp), Bool.false_and]
theorem isQ_tells (x0 : List Int) (hq : ∀ c : Int, 0 ≤ c → c < (x0.length : Int) → -9223372036854775808 ≤ rd x0 c ∧ rd x0 c ≤ 9223372036854775807) (hl : x0.length ≤ 1048576) :
  Ev (fun k => impl_IsQuiddity.f k x0) (decide (3 ≤ (x0.length : Int) ∧ (x0.length : Int) ≤ 12) && earOk (rd x0) x0.length) := by
 obtain ⟨K, hK⟩ := triangulation_tells x0 hq hl
 refine ⟨K, fun k hk => ?_⟩
 obtain ⟨r, hr⟩ := hK k hk
 show impl_IsQuiddity.f k x0 = _
 unfold impl_IsQuiddity.f
 rw [hr]
 rfl

def okQ (x : Int) : Bool := decide (1 ≤ x ∧ x ≤ 12)
theorem allq_rounds (l : List Int) (hl : l.length ≤ 1048576) (e : Nat) : ∀ (i k : Nat), i + e = l.length → e < k → spec_l1All.l0 k 1 12 l (l.length : Int) (i : Int) = some ((l.drop i).all okQ) := by
 induction e with
 | zero =>
  intro i k hi hk
  obtain ⟨k, rfl⟩ : ∃ q, k = q + 1 := ⟨k - 1, by omega⟩
  simp only [spec_l1All.l0]
  rw [if_neg (by omega), List.drop_of_length_le (by omega)]
  rfl
 | succ e ih =>
  intro i k hi hk
  obtain ⟨k, rfl⟩ : ∃ q, k = q + 1 := ⟨k - 1, by omega⟩
  simp only [spec_l1All.l0]
  rw [if_pos (by omega), if_pos (by omega), if_pos (by omega), l1In_tells, Option.bind_some, wrap_succ i (by omega), ih (i + 1) k (by omega) (by omega), rd_nat, getD_drop l 0 i (by omega), List.all_cons]
  unfold okQ
  cases decide (1 ≤ l.getD i 0 ∧ l.getD i 0 ≤ 12) <;> simp
theorem own_tells (l : List Int) (hl : l.length ≤ 1048576) : spec_l1Own.f l = some l := by
 unfold spec_l1Own.f
 rw [Option.bind_some, if_pos (by simp only [List.length_nil]; omega), List.nil_append]
theorem look_rounds (X x5 : List Int) (x7 : List DG) (hX : X.length ≤ 1000) : ∀ (d j : Nat) (x8 : Int) (k : Nat), j + d = X.length → x8 = -1 ∨ 0 ≤ x8 → spec_poOf.l2 (k + d) X x5 x7 x8 X (X.length : Int) (j : Int) = spec_poOf.l2 k X x5 x7 (if x8 < 0 then idxOf p1 (X.drop j) j else x8) X (X.length : Int) (X.length : Int)
 | 0, j, x8, k, hj, h8 => by
  rw [List.drop_of_length_le (by omega), show j = X.length by omega, Nat.add_zero]
  rcases h8 with h | h
  ·rw [if_pos (by omega), h]
   rfl
  ·rw [if_neg (by omega)]
 | d + 1, j, x8, k, hj, h8 => by
  rw [show spec_poOf.l2 (k + (d + 1)) X x5 x7 x8 X (X.length : Int) (j : Int) = spec_poOf.l2 (k + d + 1) X x5 x7 x8 X (X.length : Int) (j : Int) from rfl, spec_poOf.l2.eq_def]
  simp only
  rw [if_pos (by omega), if_pos (by omega), if_pos (by omega), wrap_succ j (by omega), rd_nat, idxOf_step p1 0 X j (by omega)]
  unfold p1
  by_cases h : X.getD j 0 = 1
  ·rw [if_pos h, if_pos (decide_eq_true h)]
   by_cases hx : x8 < 0
   ·rw [if_pos hx, if_pos hx, look_rounds X x5 x7 hX d (j + 1) (j : Int) k (by omega) (Or.inr (by omega)), if_neg (by omega)]
   ·rw [if_neg hx, if_neg hx, look_rounds X x5 x7 hX d (j + 1) x8 k (by omega) h8, if_neg hx]
  ·rw [if_neg h, look_rounds X x5 x7 hX d (j + 1) x8 k (by omega) h8, if_neg (show ¬ decide (X.getD j 0 = 1) = true by rw [decide_eq_true_eq]; exact h)]
   rfl
theorem po_j4 (Y x5 : List Int) (x7 : List DG) (m i k : Nat) (hY : Y.length = m) (h5 : x5.length = m) (h4 : 4 ≤ m) (h12 : m ≤ 12) (hi : i < m) (ho : x7.length ≤ 1000) :
  spec_poOf.j4 (k + 1) Y x5 x7 (i : Int) ((ahd m i : Nat) : Int) ((bhd m i : Nat) : Int) false = spec_poOf.l1 k (Y.eraseIdx i) (x5.eraseIdx i) (x7 ++ [dOf x5 i]) := by
 have ha := ahd_lt m i hi
 have hb := bhd_lt m i hi h4
 have w : wrap64 ((i : Int) + 1) = ((i + 1 : Nat) : Int) := by unfold wrap64; omega
 simp only [spec_poOf.j4]
 rw [if_neg (by simp), if_pos (by omega), if_pos (by omega), if_pos (by omega), if_pos (by omega), least_tells, Option.bind_some, most_tells, Option.bind_some, if_pos (by omega), if_pos (by omega), if_pos (by omega), w, Int.toNat_natCast, Int.toNat_natCast, own_tells _ (by rw [List.length_take]; omega), Option.bind_some, if_pos (by omega), if_pos (by omega), Option.bind_some, if_pos (by rw [List.length_take, List.length_drop]; omega), if_pos (by omega), own_tells _ (by rw [List.length_take]; omega), Option.bind_some, if_pos (by omega), Option.bind_some, if_pos (by rw [List.length_take, List.length_drop]; omega), ← List.eraseIdx_eq_take_drop_succ, ← List.eraseIdx_eq_take_drop_succ]
 have e2 : (⟨min (rd x5 ((ahd m i : Nat) : Int)) (rd x5 ((bhd m i : Nat) : Int)), max (rd x5 ((ahd m i : Nat) : Int)) (rd x5 ((bhd m i : Nat) : Int))⟩ : DG) = dOf x5 i := by
  unfold dOf
  rw [h5]
  rfl
 rw [e2]
theorem po_tail (X x5 : List Int) (x7 : List DG) (m i k : Nat) (hX : X.length = m) (h5 : x5.length = m) (h4 : 4 ≤ m) (h12 : m ≤ 12) (hi : i < m) :
  spec_poOf.l2 (k + 1) X x5 x7 (i : Int) X (m : Int) (m : Int) = if (less2 X (ahd m i) (bhd m i)).getD (ahd m i) 0 < 1 then spec_poOf.j4 k (less2 X (ahd m i) (bhd m i)) x5 x7 (i : Int) ((ahd m i : Nat) : Int) ((bhd m i : Nat) : Int) true else spec_poOf.j4 k (less2 X (ahd m i) (bhd m i)) x5 x7 (i : Int) ((ahd m i : Nat) : Int) ((bhd m i : Nat) : Int) (decide ((less2 X (ahd m i) (bhd m i)).getD (bhd m i) 0 < 1)) := by
 have ha := ahd_lt m i hi
 have hb := bhd_lt m i hi h4
 simp only [spec_poOf.l2, hX]
 rw [if_neg (by omega), if_neg (by omega), if_neg (by omega), mod_a m i hi h4 h12, mod_b m i hi h4 h12, if_pos (by omega), if_pos (by omega), Option.bind_some, if_pos (by omega), if_pos (by omega), Option.bind_some]
 simp only [Int.toNat_natCast, rd_nat]
 rfl
def earEnd (q : Int → Int) : Option (List Int × List DG) → Bool
 | none => false
 | some p => decide (vl q p.2 p.1 = [1, 1, 1])
theorem po_rounds {n : Int} {q : Int → Int} (h3 : 3 ≤ n ∧ n ≤ 12) (hq12 : ∀ c, 0 ≤ c → c < n → 1 ≤ q c ∧ q c ≤ 12) (e : Nat) : ∀ (ns : List Int) (out : List DG) (k : Nat), Cut n q ns out → ns.length = e + 3 → 11100 + 20 * e < k →
  ∃ r, spec_poOf.l1 k (vl q out ns) ns out = some (r, earEnd q (ear q e ns out)) := by
 have hq : ∀ c, 0 ≤ c → c < n → -9223372036854775808 ≤ q c ∧ q c ≤ 9223372036854775807 := fun c h0 h1 => by have := hq12 c h0 h1; omega
 induction e with
 | zero =>
  intro ns out k C hl hk
  obtain ⟨k, rfl⟩ : ∃ q, k = q + 1 := ⟨k - 1, by omega⟩
  have hc := C.cnt
  obtain ⟨s, hs, _, _⟩ := poSorted_tells out (by omega) k (by omega)
  obtain ⟨a, b, c, hv⟩ : ∃ a b c, vl q out ns = [a, b, c] := by
   have : (vl q out ns).length = 3 := by rw [vl_len]; omega
   match vl q out ns, this with
   | [a, b, c], _ => exact ⟨a, b, c, rfl⟩
  refine ⟨s, ?_⟩
  simp only [ear, earEnd, spec_poOf.l1]
  rw [if_neg (by rw [vl_len]; omega), hs, Option.bind_some, hv]
  have r0 : rd [a, b, c] 0 = a := rfl
  have r1 : rd [a, b, c] 1 = b := rfl
  have r2 : rd [a, b, c] 2 = c := rfl
  rw [r0, r1, r2]
  by_cases e0 : a = 1 <;> by_cases e1 : b = 1 <;> by_cases e2 : c = 1 <;> simp [e0, e1, e2]
 | succ e ih =>
  intro ns out k C hl hk
  have hc := C.cnt
  have hm : ns.length ≤ 12 := by omega
  obtain ⟨m, em⟩ : ∃ m, m = ns.length := ⟨_, rfl⟩
  obtain ⟨k, rfl⟩ : ∃ q, k = q + m + 3 := ⟨k - m - 3, by omega⟩
  have hvl : (vl q out ns).length = m := by rw [vl_len, em]
  rw [show k + m + 3 = (k + 2 + m) + 1 by omega]
  simp only [spec_poOf.l1]
  rw [if_pos (by omega)]
  have hlook := look_rounds (vl q out ns) ns out (by omega) m 0 (-1) (k + 2) (by omega) (Or.inl rfl)
  rw [if_pos (by omega), List.drop_zero, hvl] at hlook
  rw [hvl, show (0 : Int) = ((0 : Nat) : Int) from rfl, hlook]
  simp only [ear]
  by_cases h0 : idxOf p1 (vl q out ns) 0 < 0
  ·rw [if_pos h0, show k + 2 = k + 1 + 1 from rfl]
   simp only [spec_poOf.l2]
   rw [if_neg (by omega), if_pos h0]
   exact ⟨_, rfl⟩
  ·rw [if_neg h0]
   obtain ⟨i, hi, hf, h1⟩ := ear_snd C (by omega) hq h0
   have hlen : (ns.eraseIdx i).length = e + 3 := by rw [List.length_eraseIdx, if_pos hi]; omega
   have C' := C.step (by omega) i hi h1
   rw [hf, Int.toNat_natCast, show k + 2 = (k + 1) + 1 from rfl, po_tail _ ns out m i (k + 1) hvl em.symm (by omega) (by omega) (by omega)]
   have ha := ahd_lt m i (by omega)
   have hb := bhd_lt m i (by omega) (by omega)
   obtain ⟨n1, n2, n3⟩ := ahd_ne m i (by omega) (by omega)
   have val : ∀ j (hj : j < ns.length), j ≠ i → (less2 (vl q out ns) (ahd m i) (bhd m i)).getD j 0 = q ns[j] - dg (out ++ [dOf ns i]) ns[j] := fun j hj hji => by
    have h := vl_pt C (by omega) i hi j hj hji
    rw [← em] at h
    rw [h]
    have hr := C.rng ns[j] (List.getElem_mem _)
    have h2 := hq12 _ hr.1 hr.2
    have h3 := C'.small h3.2 ns[j]
    exact wrap_id _ (by omega) (by omega)
   have bad : ∀ j (hj : j < ns.length), j ≠ i → q ns[j] - dg (out ++ [dOf ns i]) ns[j] < 1 → earEnd q (ear q e (ns.eraseIdx i) (out ++ [dOf ns i])) = false := fun j hj hji hlt => by
    cases he : ear q e (ns.eraseIdx i) (out ++ [dOf ns i]) with
    | none => rfl
    | some p =>
     obtain ⟨ns', out'⟩ := p
     obtain ⟨C2, hl2⟩ := ear_cut h3.2 hq e C' hlen he
     obtain ⟨c, hc1, hc2⟩ := ear_bad h3.2 hq e C' hlen ⟨ns[j], List.mem_eraseIdx_iff_getElem.2 ⟨j, hj, hji, rfl⟩, hlt⟩ he
     simp only [earEnd, decide_eq_false_iff_not, all1 C2 h3 hq hl2]
     intro hh
     have := hh c hc1
     omega
   rw [val _ (by omega) n2, val _ (by omega) n3]
   by_cases hA : q ns[ahd m i] - dg (out ++ [dOf ns i]) ns[ahd m i] < 1
   ·rw [if_pos hA, bad _ _ n2 hA]
    simp only [spec_poOf.j4, if_true]
    exact ⟨_, rfl⟩
   ·rw [if_neg hA]
    by_cases hB : q ns[bhd m i] - dg (out ++ [dOf ns i]) ns[bhd m i] < 1
    ·rw [decide_eq_true hB, bad _ _ n3 hB]
     simp only [spec_poOf.j4, if_true]
     exact ⟨_, rfl⟩
    ·rw [decide_eq_false hB, po_j4 _ ns out m i k (by rw [less2_len]; omega) em.symm (by omega) (by omega) (by omega) (by omega)]
     have hs := vl_step C (by omega) i hi
     rw [← em] at hs
     rw [hs]
     exact ih _ _ k C' hlen (by omega)
theorem corners_rounds (x4 : List Int) (N : Nat) (hN : N ≤ 1000) : ∀ (d j k : Nat), j + d = N → spec_poOf.l0 (k + d + 1) x4 ((List.range j).map fun i : Nat => (i : Int)) (N : Int) (j : Int) = spec_poOf.l1 k x4 ((List.range N).map fun i : Nat => (i : Int)) []
 | 0, j, k, hj => by
  simp only [spec_poOf.l0]
  rw [if_neg (by omega), show j = N by omega]
 | d + 1, j, k, hj => by
  rw [show k + (d + 1) + 1 = (k + d + 1) + 1 by omega]
  simp only [spec_poOf.l0]
  rw [if_pos (by omega), if_pos (by rw [List.length_map, List.length_range]; omega), wrap_succ j (by omega)]
  have h := corners_rounds x4 N hN d (j + 1) k (by omega)
  rw [List.range_succ, List.map_append] at h
  exact h
/-- What is a quiddity has numbers from 1 to 12. -/
theorem ok_all (x0 : List Int) (h3 : 3 ≤ (x0.length : Int) ∧ (x0.length : Int) ≤ 12) (hq : ∀ c : Int, 0 ≤ c → c < (x0.length : Int) → -9223372036854775808 ≤ rd x0 c ∧ rd x0 c ≤ 9223372036854775807) (h : earOk (rd x0) x0.length = true) :
  ∃ s, Tri (x0.length : Int) s ∧ ∀ c : Int, 0 ≤ c → c < (x0.length : Int) → rd x0 c = 1 + dg s c := by
 have C := Cut.start (x0.length : Int) (rd x0) h3
 rw [Int.toNat_natCast] at C
 unfold earOk at h
 cases he : ear (rd x0) (x0.length - 3) ((List.range x0.length).map fun i : Nat => (i : Int)) [] with
 | none => rw [he] at h; exact absurd h (by simp)
 | some p =>
  obtain ⟨ns', out'⟩ := p
  rw [he] at h
  obtain ⟨C', hl'⟩ := ear_cut h3.2 hq _ C (by rw [List.length_map, List.length_range]; omega) he
  have hc := C'.cnt
  obtain ⟨s, hs, hsort, hperm⟩ := sortFunc_tells out' (by omega) 500 (by omega)
  have hall := C'.fin h3 hq ((all1 C' h3 hq hl').1 (of_decide_eq_true h))
  exact ⟨s, C'.tri h3 hl' hperm.symm (hsort.imp (fun h => h)), fun c h0 h1 => by rw [hall c h0 h1, dg_perm hperm]⟩
theorem poOf_tells (x0 : List Int) (hq : ∀ c : Int, 0 ≤ c → c < (x0.length : Int) → -9223372036854775808 ≤ rd x0 c ∧ rd x0 c ≤ 9223372036854775807) (hl : x0.length ≤ 1048576) (k : Nat) (hk : 1100000 < k) :
  ∃ r, spec_poOf.f k x0 = some (r, decide (3 ≤ (x0.length : Int) ∧ (x0.length : Int) ≤ 12) && earOk (rd x0) x0.length) := by
 obtain ⟨k, rfl⟩ : ∃ q, k = q + 1 := ⟨k - 1, by omega⟩
 unfold spec_poOf.f
 rw [poIs_tells, Option.bind_some]
 by_cases h3 : 3 ≤ (x0.length : Int) ∧ (x0.length : Int) ≤ 12
 ·have hA : spec_l1All.f (k + 1) x0 1 12 = some (x0.all okQ) := by
   have h := allq_rounds x0 hl x0.length 0 (k + 1) (by omega) (by omega)
   rw [List.drop_zero] at h
   exact h
  rw [decide_eq_true h3, if_pos rfl, hA, Option.bind_some, Bool.true_and]
  simp only [spec_poOf.j0]
  cases hall : x0.all okQ
  ·refine ⟨[], ?_⟩
   rw [Bool.not_false, if_pos rfl]
   cases ho : earOk (rd x0) x0.length
   ·rfl
   ·exfalso
    obtain ⟨s, T, hs⟩ := ok_all x0 h3 hq ho
    have : x0.all okQ = true := by
     rw [List.all_eq_true]
     intro x hx
     obtain ⟨j, hj, rfl⟩ := List.getElem_of_mem hx
     have h1 := hs (j : Int) (by omega) (by omega)
     have h2 := dg_le s (fun d hd => by have := T.ok d hd; omega) (j : Int)
     have h4 := dg_bounds s (j : Int)
     have h5 := T.len
     rw [rd_nat, getD_at x0 j hj] at h1
     unfold okQ
     rw [decide_eq_true_eq]
     omega
    rw [hall] at this
    exact absurd this (by simp)
  ·have hq12 : ∀ c : Int, 0 ≤ c → c < (x0.length : Int) → 1 ≤ rd x0 c ∧ rd x0 c ≤ 12 := fun c h0 h1 => by
    have e : c = ((c.toNat : Nat) : Int) := by omega
    have := List.all_eq_true.1 hall x0[c.toNat] (List.getElem_mem (by omega))
    unfold okQ at this
    rw [decide_eq_true_eq] at this
    rw [e, rd_nat, getD_at x0 c.toNat (by omega)]
    exact this
   have C := Cut.start (x0.length : Int) (rd x0) h3
   rw [Int.toNat_natCast] at C
   have hnl : ((List.range x0.length).map fun i : Nat => (i : Int)).length = x0.length - 3 + 3 := by rw [List.length_map, List.length_range]; omega
   have hv : vl (rd x0) [] ((List.range x0.length).map fun i : Nat => (i : Int)) = x0 := start_vl x0 hq
   rw [Bool.not_true, if_neg (by simp), own_tells x0 hl, Option.bind_some]
   have h1 := corners_rounds x0 x0.length (by omega) x0.length 0 (k - (x0.length + 1)) (by omega)
   rw [show k - (x0.length + 1) + x0.length + 1 = k by omega] at h1
   obtain ⟨r, hr⟩ := po_rounds h3 hq12 (x0.length - 3) _ [] (k - (x0.length + 1)) C hnl (by omega)
   rw [hv] at hr
   refine ⟨r, h1.trans (hr.trans ?_)⟩
   unfold earOk earEnd
   cases ear (rd x0) (x0.length - 3) ((List.range x0.length).map fun i : Nat => (i : Int)) [] <;> rfl
 ·rw [decide_eq_false h3, if_neg (by simp), Bool.false_and]
  simp only [spec_poOf.j0, if_true]
  exact ⟨_, rfl⟩
theorem isQs_tells (x0 : List Int) (hq : ∀ c : Int, 0 ≤ c → c < (x0.length : Int) → -9223372036854775808 ≤ rd x0 c ∧ rd x0 c ≤ 9223372036854775807) (hl : x0.length ≤ 1048576) :
  Ev (fun k => spec_IsQuiddity.f k x0) (decide (3 ≤ (x0.length : Int) ∧ (x0.length : Int) ≤ 12) && earOk (rd x0) x0.length) := by
 refine ⟨1100001, fun k hk => ?_⟩
 obtain ⟨r, hr⟩ := poOf_tells x0 hq hl k (by omega)
 show spec_IsQuiddity.f k x0 = _
 unfold spec_IsQuiddity.f
 rw [hr]
 rfl

theorem toI_rounds (x0 : List Int) (hl : x0.length ≤ 1048576) (d : Nat) : ∀ (i k : Nat) (x3 : List Int), x3.length = x0.length → i + d = x0.length → d < k →
  laws_toIntS.l0 k x0 x3 (i : Int) = some (x3.take i ++ x0.drop i) := by
 induction d with
 | zero =>
  intro i k x3 h3 hi hk
  obtain ⟨k, rfl⟩ : ∃ m, k = m + 1 := ⟨k - 1, by omega⟩
  simp only [laws_toIntS.l0]
  rw [if_neg (by omega), List.drop_of_length_le (by omega), List.take_of_length_le (by omega), List.append_nil]
 | succ d ih =>
  intro i k x3 h3 hi hk
  obtain ⟨k, rfl⟩ : ∃ m, k = m + 1 := ⟨k - 1, by omega⟩
  simp only [laws_toIntS.l0]
  rw [if_pos (by omega), if_pos (by omega), if_pos (by omega), wrap_succ i (by omega), ih (i + 1) k _ (by rw [List.length_set]; exact h3) (by omega) (by omega), Int.toNat_natCast, take_set_succ _ _ _ (by omega), getD_drop x0 0 i (by omega)]
  simp [rd]
theorem toI_tells (x0 : List Int) (hl : x0.length ≤ 1048576) (k : Nat) (hk : x0.length < k) : laws_toIntS.f k x0 = some x0 := by
 unfold laws_toIntS.f
 rw [if_pos (by omega), if_pos (by omega), Int.toNat_natCast]
 have h := toI_rounds x0 hl x0.length 0 k (List.replicate x0.length 0) (by simp) (by omega) hk
 simpa using h

theorem eqI_rounds (l : List Int) (hl : l.length ≤ 1048576) (d : Nat) : ∀ (i k : Nat), i + d = l.length → d < k → laws_eqIntS.l0 k l l (i : Int) = some true := by
 induction d with
 | zero =>
  intro i k hi hk
  obtain ⟨k, rfl⟩ : ∃ m, k = m + 1 := ⟨k - 1, by omega⟩
  simp only [laws_eqIntS.l0]
  rw [if_neg (by omega)]
 | succ d ih =>
  intro i k hi hk
  obtain ⟨k, rfl⟩ : ∃ m, k = m + 1 := ⟨k - 1, by omega⟩
  simp only [laws_eqIntS.l0, if_true]
  rw [if_pos (by omega), if_pos (by omega), if_pos (by omega), wrap_succ i (by omega)]
  exact ih (i + 1) k (by omega) (by omega)
theorem eqI_tells (l : List Int) (hl : l.length ≤ 1048576) (k : Nat) (hk : l.length < k) : laws_eqIntS.f k l l = some true := by
 unfold laws_eqIntS.f
 rw [if_pos rfl]
 exact eqI_rounds l hl l.length 0 k (by omega) hk

theorem find_rounds (r : List (List Int)) (l : List Int) (hr : r.length ≤ 1000) (hx : ∀ x ∈ r, x.length ≤ 100) : ∀ (d j k : Nat), j + d = r.length → d + 200 < k → slices_IndexFunc_int_int_s5.l0 k r (r.length : Int) (j : Int) l = some (idxOf (fun y => decide (y = l)) (r.drop j) j)
 | 0, j, k, hj, hk => by
  obtain ⟨k, rfl⟩ : ∃ q, k = q + 1 := ⟨k - 1, by omega⟩
  simp only [slices_IndexFunc_int_int_s5.l0]
  rw [if_neg (by omega), List.drop_of_length_le (by omega)]
  rfl
 | d + 1, j, k, hj, hk => by
  obtain ⟨k, rfl⟩ : ∃ q, k = q + 1 := ⟨k - 1, by omega⟩
  have hlt : j < r.length := by omega
  have hm : r.getD j [] ∈ r := by
   rw [List.getD_eq_getElem?_getD, List.getElem?_eq_getElem hlt]
   exact List.getElem_mem _
  have hlen := hx _ hm
  simp only [slices_IndexFunc_int_int_s5.l0, impl_RankOfQuiddity_1_s6.f]
  rw [if_pos (by omega), if_pos (by omega), if_pos (by omega), rdLI_at r j hlt, equal_tells _ _ (by omega) k (by omega), Option.bind_some, Option.bind_some, wrap_succ j (by omega), find_rounds r l hr hx d (j + 1) k (by omega) (by omega), idxOf_step _ [] r j hlt]
  by_cases h : r.getD j [] = l
  ·rw [if_pos (decide_eq_true h), if_pos (decide_eq_true h)]
  ·rw [if_neg (by simpa using h), if_neg (by simpa using h)]
theorem count_rounds (r : List (List Int)) (l : List Int) (N : Nat) (hN : N ≤ 100) (hr : r.length ≤ 1000) (hl : l.length = N) (hx : ∀ x ∈ r, x.length = N) : ∀ (d j k c : Nat), j + d = r.length → c ≤ j → d + 200 < k → spec_RankOfQuiddity.l0 k l (c : Int) r (r.length : Int) (j : Int) = some (((c + (r.drop j).countP (fun y => decide (y < l)) : Nat) : Int), true)
 | 0, j, k, c, hj, hc, hk => by
  obtain ⟨k, rfl⟩ : ∃ q, k = q + 1 := ⟨k - 1, by omega⟩
  simp only [spec_RankOfQuiddity.l0]
  rw [if_neg (by omega), List.drop_of_length_le (by omega)]
  rfl
 | d + 1, j, k, c, hj, hc, hk => by
  obtain ⟨k, rfl⟩ : ∃ q, k = q + 1 := ⟨k - 1, by omega⟩
  have hlt : j < r.length := by omega
  have hm : r.getD j [] ∈ r := by
   rw [List.getD_eq_getElem?_getD, List.getElem?_eq_getElem hlt]
   exact List.getElem_mem _
  have hlen := hx _ hm
  have w : wrap64 ((c : Int) + 1) = ((c + 1 : Nat) : Int) := wrap_succ c (by omega)
  simp only [spec_RankOfQuiddity.l0]
  rw [if_pos (by omega), if_pos (by omega), if_pos (by omega), rdLI_at r j hlt, before_tells _ _ (by omega) (by omega) k (by omega), Option.bind_some, wrap_succ j (by omega), w, getD_drop r [] j hlt, List.countP_cons]
  by_cases h : r.getD j [] < l
  ·rw [if_pos (decide_eq_true h), if_pos (decide_eq_true h), count_rounds r l N hN hr hl hx d (j + 1) k (c + 1) (by omega) (by omega) (by omega)]
   congr 3
   omega
  ·rw [if_neg (by simpa using h), if_neg (by simpa using h), show List.countP (fun y => decide (y < l)) (r.drop (j + 1)) + 0 = List.countP (fun y => decide (y < l)) (r.drop (j + 1)) from rfl]
   exact count_rounds r l N hN hr hl hx d (j + 1) k c (by omega) (by omega) (by omega)
theorem both (l : List Int) (hl : l.length ≤ 1048576) (hw : ∀ x ∈ l, (Lit.int .i64 x).wf = true) : ∃ (K : Nat) (r : Int) (ok : Bool), ∀ k, K ≤ k → spec_RankOfQuiddity.f k l = some (r, ok) ∧ impl_RankOfQuiddity.f k l = some (r, ok) := by
 have hq : ∀ c : Int, 0 ≤ c → c < (l.length : Int) → -9223372036854775808 ≤ rd l c ∧ rd l c ≤ 9223372036854775807 := fun c h0 h1 => by
  have e : c = ((c.toNat : Nat) : Int) := by omega
  have h := hw l[c.toNat] (List.getElem_mem (by omega))
  rw [e, rd_nat, getD_at l c.toNat (by omega)]
  simp only [Lit.wf, Bool.and_eq_true, decide_eq_true_eq] at h
  exact h
 obtain ⟨K1, h1⟩ := isQ_tells l hq hl
 obtain ⟨K2, h2⟩ := isQs_tells l hq hl
 cases ho : (decide (3 ≤ (l.length : Int) ∧ (l.length : Int) ≤ 12) && earOk (rd l) l.length)
 ·refine ⟨K1 + K2 + 1, 0, false, fun k hk => ?_⟩
  rw [ho] at h1 h2
  have a1 := h1 k (by omega)
  have a2 := h2 k (by omega)
  obtain ⟨k, rfl⟩ : ∃ q, k = q + 1 := ⟨k - 1, by omega⟩
  simp only at a1 a2
  constructor
  ·simp only [spec_RankOfQuiddity.f, spec_caFew.f, l1In_tells, Option.bind_some, a2]
   by_cases h8 : 3 ≤ (l.length : Int) ∧ (l.length : Int) ≤ 8
   ·rw [if_pos (decide_eq_true h8)]
    simp [spec_RankOfQuiddity.j0]
   ·rw [if_neg (by simpa using h8)]
    simp [spec_RankOfQuiddity.j0]
  ·simp only [impl_RankOfQuiddity.f, a1, Option.bind_some]
   simp [impl_RankOfQuiddity.j0]
 ·rw [ho] at h1 h2
  rw [Bool.and_eq_true, decide_eq_true_eq] at ho
  have hN : 3 ≤ l.length ∧ l.length ≤ 12 := by omega
  by_cases h8 : l.length ≤ 8
  ·have h38 : 3 ≤ (l.length : Int) ∧ (l.length : Int) ≤ 8 := by omega
   obtain ⟨r, ⟨r1, r2, r3, r4⟩, hr⟩ := quids_all (l.length : Int) h38
   obtain ⟨s, T, hs⟩ := ok_all l ho.1 hq ho.2
   have hm : l ∈ r := by
    have h9 := r4 s (tris_full _ h38 s T)
    have e : qd (l.length : Int).toNat s = l := ext_rd _ _ (by rw [qd_len, Int.toNat_natCast]) (fun i i0 i1 => by
     rw [qd_len, Int.toNat_natCast] at i1
     rw [hs i i0 i1]
     unfold rd qd
     rw [List.getD_eq_getElem?_getD, List.getElem?_map, List.getElem?_range (by omega)]
     simp [Int.toNat_of_nonneg i0])
    rwa [e] at h9
   have hlen : ∀ x ∈ r, x.length = l.length := fun x hx => by rw [r2 x hx, Int.toNat_natCast]
   refine ⟨K1 + K2 + 1100001, ((r.countP fun y => decide (y < l) : Nat) : Int), true, fun k hk => ?_⟩
   have a1 := h1 k (by omega)
   have a2 := h2 k (by omega)
   obtain ⟨k, rfl⟩ : ∃ q, k = q + 1 := ⟨k - 1, by omega⟩
   simp only at a1 a2
   obtain ⟨q1, q2⟩ := hr k (by omega)
   constructor
   ·simp only [spec_RankOfQuiddity.f, spec_caFew.f, l1In_tells, Option.bind_some, a2]
    rw [decide_eq_true h38, if_pos rfl, Bool.not_true]
    simp only [spec_RankOfQuiddity.j0]
    rw [if_neg (by simp), q1, Option.bind_some]
    have h := count_rounds r l l.length (by omega) r1 rfl hlen r.length 0 k 0 (by omega) (by omega) (by omega)
    rw [List.drop_zero, Nat.zero_add] at h
    exact h
   ·simp only [impl_RankOfQuiddity.f, a1, Option.bind_some, impl_isListedPolygon.f, within_tells]
    rw [if_pos trivial, decide_eq_true h38, Bool.not_true]
    simp only [impl_RankOfQuiddity.j0]
    rw [if_neg (by simp), q2, Option.bind_some]
    have h := find_rounds r l r1 (fun x hx => by rw [hlen x hx]; omega) r.length 0 k (by omega) (by omega)
    rw [List.drop_zero, rank_at l r 0 r3 hm] at h
    have h' : slices_IndexFunc_int_int_s5.f k r l = some ((r.countP fun y => decide (y < l) : Nat) : Int) := by
     refine h.trans ?_
     congr 1
     omega
    rw [h']
    rfl
  ·have h38 : ¬ (3 ≤ (l.length : Int) ∧ (l.length : Int) ≤ 8) := by omega
   refine ⟨K1 + K2 + 1, 0, false, fun k hk => ?_⟩
   have a1 := h1 k (by omega)
   have a2 := h2 k (by omega)
   obtain ⟨k, rfl⟩ : ∃ q, k = q + 1 := ⟨k - 1, by omega⟩
   simp only at a1 a2
   constructor
   ·simp only [spec_RankOfQuiddity.f, spec_caFew.f, l1In_tells, Option.bind_some]
    rw [decide_eq_false h38, if_neg (by simp)]
    simp [spec_RankOfQuiddity.j0]
   ·simp only [impl_RankOfQuiddity.f, a1, Option.bind_some, impl_isListedPolygon.f, within_tells]
    rw [if_pos trivial, decide_eq_false h38]
    simp [impl_RankOfQuiddity.j0]

theorem FnExactRankOfQuiddity (l : List Int) (hm : l.length ≤ maxLen) (_ : l.length * 8 ≤ 140737488351232) (hw : ∀ x ∈ l, (Lit.int .i64 x).wf = true) : ∃ k, laws_FnExactRankOfQuiddity.f k l = some true := by
 by_cases hl : l.length ≤ 1048576
 ·obtain ⟨K1, r, ok, hb⟩ := both l hl hw
  obtain ⟨M, hM⟩ : ∃ M, M = K1 + (l.length + 1) := ⟨_, rfl⟩
  have b1 : ∀ j, spec_RankOfQuiddity.f (M + j) l = some (r, ok) := fun j => (hb (M + j) (by omega)).1
  have b2 : ∀ j, impl_RankOfQuiddity.f (M + j) l = some (r, ok) := fun j => (hb (M + j) (by omega)).2
  have b3 : ∀ j, laws_toIntS.f (M + j) l = some l := fun j => toI_tells l hl (M + j) (by omega)
  have b4 : ∀ j, laws_eqIntS.f (M + j) l l = some true := fun j => eqI_tells l hl (M + j) (by omega)
  have j0 : laws_FnExactRankOfQuiddity.j0 (M + 2) l l false = some true := by
   simp only [laws_FnExactRankOfQuiddity.j0, b3, b4, Option.bind_some, Bool.false_eq_true, if_false, if_true]
  refine ⟨M + 2, ?_⟩
  simp only [laws_FnExactRankOfQuiddity.f, b1, b2, b3, Option.bind_some, if_true]
  rw [if_neg (by omega), bne_self_eq_false]
  exact j0
 ·refine ⟨0, ?_⟩
  unfold laws_FnExactRankOfQuiddity.f
  rw [if_pos (by omega)]

end Go.Proofs.Ytgblginphicacaa.PureFnExactRankOfQuiddity
