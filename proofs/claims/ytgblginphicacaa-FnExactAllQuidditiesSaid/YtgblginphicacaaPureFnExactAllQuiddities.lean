/- The program's AllQuiddities and the reference's return the same for every number of corners: both list the quiddities of all triangulations; the program sorts them, the reference puts each in its place; both lists are one. No condition. -/
import Derived.Test.YtgblginphicacaaPFnExactAllQuidditiesx0
import Derived.Test.YtgblginphicacaaPFnExactAllQuidditiesx1
import Derived.Test.YtgblginphicacaaPFnExactAllQuidditiesx2
import Derived.Test.YtgblginphicacaaPFnExactAllQuidditiesx3
import Derived.Test.YtgblginphicacaaPFnExactAllQuidditiesx4
import Derived.Test.YtgblginphicacaaPFnExactAllQuidditiesx5
import Derived.Test.YtgblginphicacaaPFnExactAllQuidditiesx6
import Derived.Test.YtgblginphicacaaPFnExactAllQuidditiesx7
import Derived.Test.YtgblginphicacaaPFnExactAllQuidditiesx8
set_option linter.unusedSimpArgs false
set_option linter.unnecessarySimpa false
set_option linter.unusedVariables false
namespace Go.Proofs.Ytgblginphicacaa.PureFnExactAllQuiddities
open Go.RowKit Go.Proofs.Ytgblginphicacaa.PFnExactAllQuiddities Go.Proofs.YtgblginphicacaaW.PrintWords Go.Proofs.YtgblginphicacaaW.PrintLast

theorem Ev.at1 {α : Type} {g : Nat → Option α} {r : α} (h : Ev g r) : ∃ K, ∀ j, g (K + j) = some r := by
 obtain ⟨K, h⟩ := h
 exact ⟨K, fun j => h _ (by omega)⟩
theorem Ev.at2 {α β : Type} {g : Nat → Option α} {r : α} {g2 : Nat → Option β} {r2 : β} (h : Ev g r) (h2 : Ev g2 r2) : ∃ K, (∀ j, g (K + j) = some r) ∧ ∀ j, g2 (K + j) = some r2 := by
 obtain ⟨K, h⟩ := h
 obtain ⟨K2, h2⟩ := h2
 exact ⟨K + K2, fun j => h _ (by omega), fun j => h2 _ (by omega)⟩
theorem Ev.at3 {α β γ : Type} {g : Nat → Option α} {r : α} {g2 : Nat → Option β} {r2 : β} {g3 : Nat → Option γ} {r3 : γ} (h : Ev g r) (h2 : Ev g2 r2) (h3 : Ev g3 r3) :
  ∃ K, (∀ j, g (K + j) = some r) ∧ (∀ j, g2 (K + j) = some r2) ∧ ∀ j, g3 (K + j) = some r3 := by
 obtain ⟨K, h⟩ := h
 obtain ⟨K2, h2⟩ := h2
 obtain ⟨K3, h3⟩ := h3
 exact ⟨K + K2 + K3, fun j => h _ (by omega), fun j => h2 _ (by omega), fun j => h3 _ (by omega)⟩
theorem Ev.at4 {α β γ δ : Type} {g : Nat → Option α} {r : α} {g2 : Nat → Option β} {r2 : β} {g3 : Nat → Option γ} {r3 : γ} {g4 : Nat → Option δ} {r4 : δ} (h : Ev g r) (h2 : Ev g2 r2) (h3 : Ev g3 r3) (h4 : Ev g4 r4) :
  ∃ K, (∀ j, g (K + j) = some r) ∧ (∀ j, g2 (K + j) = some r2) ∧ (∀ j, g3 (K + j) = some r3) ∧ ∀ j, g4 (K + j) = some r4 := by
 obtain ⟨K, e1, e2, e3⟩ := Ev.at3 h h2 h3
 obtain ⟨K4, h4⟩ := h4
 exact ⟨K + K4, fun j => by rw [Nat.add_assoc]; exact e1 _, fun j => by rw [Nat.add_assoc]; exact e2 _, fun j => by rw [Nat.add_assoc]; exact e3 _, fun j => h4 _ (by omega)⟩
theorem Ev.all {α β : Type} {g : α → Nat → Option β} {r : α → β} (l : List α) (h : ∀ x, x ∈ l → Ev (g x) (r x)) : ∃ K, ∀ x, x ∈ l → ∀ k, K ≤ k → g x k = some (r x) := by
 induction l with
 | nil => exact ⟨0, fun x hx => by cases hx⟩
 | cons y l ih =>
  obtain ⟨K, hK⟩ := ih (fun x hx => h x (List.mem_cons_of_mem _ hx))
  obtain ⟨K2, hK2⟩ := h y (List.mem_cons_self ..)
  refine ⟨K + K2, fun x hx k hk => ?_⟩
  rcases List.mem_cons.1 hx with e | e
  ·subst e
   exact hK2 k (by omega)
  ·exact hK x e k (by omega)

theorem take_set_succ {α : Type} (l : List α) (i : Nat) (v : α) (h : i < l.length) : (l.set i v).take (i + 1) = l.take i ++ [v] := by
 rw [List.take_succ_eq_append_getElem (by rw [List.length_set]; exact h), List.getElem_set_self, List.take_set_of_le (Nat.le_refl i)]
theorem getD_drop {α : Type} (l : List α) (d : α) (i : Nat) (h : i < l.length) : l.drop i = l.getD i d :: l.drop (i + 1) := by
 rw [List.drop_eq_getElem_cons h, List.getD_eq_getElem?_getD, List.getElem?_eq_getElem h]
 rfl
theorem wrap_succ (i : Nat) (h : i < 4611686018427387904) : wrap64 ((i : Int) + 1) = ((i + 1 : Nat) : Int) := by unfold wrap64; omega
theorem wrap_pred (i : Nat) (h0 : 0 < i) (h : i < 4611686018427387904) : wrap64 ((i : Int) - 1) = ((i - 1 : Nat) : Int) := by unfold wrap64; omega

theorem l1In_tells (a b c : Int) : spec_l1In.f a b c = some (decide (b ≤ a ∧ a ≤ c)) := by
 unfold spec_l1In.f
 by_cases h : a ≥ b
 ·rw [if_pos h]
  have : b ≤ a := h
  simp [this]
 ·rw [if_neg h]
  have : ¬ b ≤ a := h
  simp [this]

theorem within_tells (a b c : Int) : impl_within.f a b c = some (decide (b ≤ a ∧ a ≤ c)) := by
 unfold impl_within.f
 by_cases h : a ≥ b
 ·rw [if_pos h]
  have : b ≤ a := h
  simp [this]
 ·rw [if_neg h]
  have : ¬ b ≤ a := h
  simp [this]

abbrev DG := S52
abbrev rD (l : List DG) (j : Nat) : DG := rd_T52 l (j : Int)
def crossB (a b c d : Int) : Bool := decide (a < c ∧ c < b ∧ b < d) || decide (c < a ∧ a < d ∧ d < b)
def diagB (n a b : Int) : Bool := decide (0 ≤ a ∧ b ≤ n - 1 ∧ b - a ≥ 2 ∧ b - a ≤ n - 2)
def lessB (a b c d : Int) : Bool := decide (a < c ∨ (a = c ∧ b < d))
def stepD (n : Int) (l : List DG) (j : Nat) : Bool :=
 diagB n (rD l j).f0 (rD l j).f1 && ((j == 0 || lessB (rD l (j - 1)).f0 (rD l (j - 1)).f1 (rD l j).f0 (rD l j).f1) && !(l.take j).any fun e => crossB (rD l j).f0 (rD l j).f1 e.f0 e.f1)
theorem stepD_def (n : Int) (l : List DG) (j : Nat) : stepD n l j = (diagB n (rD l j).f0 (rD l j).f1 && ((j == 0 || lessB (rD l (j - 1)).f0 (rD l (j - 1)).f1 (rD l j).f0 (rD l j).f1) && !(l.take j).any fun e => crossB (rD l j).f0 (rD l j).f1 e.f0 e.f1)) := rfl
def goodD (n : Int) (l : List DG) : Bool := (List.range' 0 l.length).all (stepD n l)

theorem rD_drop (l : List DG) (i : Nat) (h : i < l.length) : l.drop i = rD l i :: l.drop (i + 1) := by
 rw [getD_drop l z52 i h]
 unfold rD rd_T52
 rw [Int.toNat_natCast]
theorem any_take_step (p : DG → Bool) (l : List DG) (i : Nat) (h : i < l.length) : (l.drop i).any p = (p (rD l i) || (l.drop (i + 1)).any p) := by
 rw [rD_drop l i h, List.any_cons]

theorem isDiagonal_tells (n a b : Int) (h : 3 ≤ n ∧ n ≤ 12) : impl_isDiagonal.f n a b = some (diagB n a b) := by
 unfold impl_isDiagonal.f diagB
 rw [within_tells, within_tells]
 have w : wrap64 (n - 1) = n - 1 := by unfold wrap64; omega
 simp only [Option.bind_some, w, decide_eq_true_eq]
 by_cases h0 : 0 ≤ a ∧ a ≤ n - 1
 ·by_cases h1 : 0 ≤ b ∧ b ≤ n - 1
  ·have w3 : wrap64 (b - a) = b - a := by unfold wrap64; omega
   rw [if_pos h0, if_pos h1, w3]
   repeat' split
   all_goals congr 1; rw [Bool.eq_iff_iff]; simp only [decide_eq_true_eq, Bool.false_eq_true, false_iff, Bool.not_eq_true', beq_eq_false_iff_ne, ne_eq, Bool.not_false, true_iff]; omega
  ·rw [if_pos h0, if_neg h1]
   congr 1; rw [Bool.eq_iff_iff]; simp only [decide_eq_true_eq, Bool.false_eq_true, false_iff]; omega
 ·rw [if_neg h0]
  congr 1; rw [Bool.eq_iff_iff]; simp only [decide_eq_true_eq, Bool.false_eq_true, false_iff]; omega

def A1 (n : Int) (a : Nat) (b e : Nat) : List DG := ((List.range' b e).filter fun (b : Nat) => diagB n a b).map fun (b : Nat) => ⟨(a : Int), (b : Int)⟩
def A0 (n : Int) (N : Nat) (a e : Nat) : List DG := (List.range' a e).flatMap fun (a : Nat) => A1 n a (a + 1) (N - (a + 1))
theorem A1_len (n : Int) (a b e : Nat) : (A1 n a b e).length ≤ e := by
 unfold A1
 rw [List.length_map]
 exact Nat.le_trans (List.length_filter_le ..) (by rw [List.length_range']; exact Nat.le_refl _)
theorem all_l1 (n : Int) (N : Nat) (hN : (N : Int) = n) (hn : 3 ≤ n ∧ n ≤ 12) (a : Nat) (r : Option (List DG)) (e : Nat) :
  ∀ (b : Nat) (acc : List DG) (K : Nat), b + e = N → acc.length + e ≤ 4000 → (∀ q, K ≤ q → impl_allDiagonals.l0 q n (acc ++ A1 n a b e) n (wrap64 ((a : Int) + 1)) = r) →
  ∀ q, K + e < q → impl_allDiagonals.l1 q n acc (a : Int) (b : Int) n (a : Int) = r := by
 induction e with
 | zero =>
  intro b acc K he hacc h q hq
  obtain ⟨q, rfl⟩ : ∃ z, q = z + 1 := ⟨q - 1, by omega⟩
  simp only [impl_allDiagonals.l1]
  rw [if_neg (by omega)]
  have := h q (by omega)
  simpa [A1] using this
 | succ e ih =>
  intro b acc K he hacc h q hq
  obtain ⟨q, rfl⟩ : ∃ z, q = z + 1 := ⟨q - 1, by omega⟩
  have hlt : acc.length < 8796093022208 := by omega
  have hA : A1 n a b (e + 1) = (if diagB n a b = true then [(⟨(a : Int), (b : Int)⟩ : DG)] else []) ++ A1 n a (b + 1) e := by
   unfold A1
   rw [List.range'_succ, List.filter_cons]
   split <;> rfl
  simp only [impl_allDiagonals.l1]
  rw [if_pos (by omega), isDiagonal_tells n _ _ hn, Option.bind_some, wrap_succ b (by omega)]
  cases hd : diagB n a b with
  | false =>
   rw [if_neg (by simp)]
   refine ih (b + 1) acc K (by omega) (by omega) ?_ q (by omega)
   intro q' hq'
   have := h q' hq'
   rw [hA, hd, if_neg (by simp), List.nil_append] at this
   exact this
  | true =>
   rw [if_pos rfl, if_pos hlt]
   refine ih (b + 1) _ K (by omega) (by rw [List.length_append, List.length_singleton]; omega) ?_ q (by omega)
   intro q' hq'
   have := h q' hq'
   rw [hA, hd] at this
   simpa using this
theorem all_l0 (n : Int) (N : Nat) (hN : (N : Int) = n) (hn : 3 ≤ n ∧ n ≤ 12) (e : Nat) :
  ∀ (a : Nat) (acc : List DG), a + e = N → acc.length + 12 * e ≤ 3000 → ∀ q, 20 * e < q → impl_allDiagonals.l0 q n acc n (a : Int) = some (acc ++ A0 n N a e) := by
 induction e with
 | zero =>
  intro a acc he hacc q hq
  obtain ⟨q, rfl⟩ : ∃ z, q = z + 1 := ⟨q - 1, by omega⟩
  simp only [impl_allDiagonals.l0]
  rw [if_neg (by omega)]
  have e0 : A0 n N a 0 = [] := rfl
  rw [e0, List.append_nil]
 | succ e ih =>
  intro a acc he hacc q hq
  obtain ⟨q, rfl⟩ : ∃ z, q = z + 1 := ⟨q - 1, by omega⟩
  have hA : A0 n N a (e + 1) = A1 n a (a + 1) (N - (a + 1)) ++ A0 n N (a + 1) e := by
   unfold A0
   rw [List.range'_succ, List.flatMap_cons]
  have hlen := A1_len n a (a + 1) (N - (a + 1))
  rw [hA, ← List.append_assoc]
  simp only [impl_allDiagonals.l0]
  rw [if_pos (by omega), wrap_succ a (by omega)]
  refine all_l1 n N hN hn a _ (N - (a + 1)) (a + 1) acc (20 * e + 1) (by omega) (by omega) ?_ q (by omega)
  intro q' hq'
  rw [wrap_succ a (by omega)]
  exact ih (a + 1) _ (by omega) (by rw [List.length_append]; omega) q' (by omega)
theorem allDiagonals_tells (n : Int) (hn : 3 ≤ n ∧ n ≤ 12) (k : Nat) (hk : 300 < k) : impl_allDiagonals.f k n = some (A0 n n.toNat 0 n.toNat) := by
 have h := all_l0 n n.toNat (by omega) hn n.toNat 0 [] (by omega) (by simp; omega) k (by omega)
 rw [show ((0 : Nat) : Int) = 0 from rfl, List.nil_append] at h
 exact h

theorem lookL_mem (m : Int) : ∀ (r b : List DG), ∀ x ∈ lookL m r b, (x.length : Int) = m
 | [], _ => fun x hx => by cases hx
 | d :: r, b => fun x hx => by
  rw [lookL_cons] at hx
  rcases List.mem_append.1 hx with h | h
  ·split at h
   ·cases h
   ·unfold lookT at h
    split at h
    ·rw [List.mem_singleton.1 h]
     assumption
    ·exact lookL_mem m r _ x h
  ·exact lookL_mem m r b x h
theorem tris_len (n : Int) : ∀ x ∈ trisOf n, (x.length : Int) = n - 3 := by
 intro x hx
 unfold trisOf lookT at hx
 split at hx
 ·rename_i h
  rw [List.mem_singleton.1 hx]
  exact h
 ·exact lookL_mem _ _ _ x hx
theorem poAll_tells (n : Int) (hn : 3 ≤ n ∧ n ≤ 8) : spec_poAll.f n = some (trisOf n) := by
 unfold spec_poAll.f
 rw [if_pos hn]
theorem A0_diags (n : Int) (hn : 3 ≤ n ∧ n ≤ 8) : A0 n n.toNat 0 n.toNat = diagsOf n := by
 have : n = 3 ∨ n = 4 ∨ n = 5 ∨ n = 6 ∨ n = 7 ∨ n = 8 := by omega
 rcases this with rfl | rfl | rfl | rfl | rfl | rfl <;> rfl
theorem allTri_tells (n : Int) (hn : 3 ≤ n ∧ n ≤ 8) (k : Nat) (hk : 300 < k) : impl_allTriangulations.f k n = some (trisOf n) := by
 unfold impl_allTriangulations.f
 rw [allDiagonals_tells n (by omega) k hk, Option.bind_some, A0_diags n hn, if_pos ⟨hn.1, hn.2, diagsOf_le n hn⟩]
 rfl
theorem tris_small (n : Int) (hn : 3 ≤ n ∧ n ≤ 8) : (trisOf n).length ≤ 1048576 := trisOf_le n hn

def isTriB (n : Int) (l : List DG) : Bool := decide (3 ≤ n ∧ n ≤ 12) && (decide ((l.length : Int) = n - 3) && goodD n l)

theorem cnt_split {α : Type} (p q r : α → Bool) : ∀ l : List α, (∀ x ∈ l, p x = true → q x = true ∨ r x = true) → l.countP p ≤ l.countP q + l.countP r
 | [], _ => by simp
 | x :: l, h => by
  have ih := cnt_split p q r l (fun y hy => h y (List.mem_cons_of_mem _ hy))
  have hx := h x (List.mem_cons_self ..)
  simp only [List.countP_cons]
  cases hp : p x <;> cases hq : q x <;> cases hr : r x <;> simp_all <;> omega
theorem cnt_zero {α : Type} (p : α → Bool) (l : List α) (h : ∀ x ∈ l, p x = false) : l.countP p = 0 := by
 rw [List.countP_eq_zero]
 intro x hx
 simp [h x hx]
theorem last_of (P : Int → Prop) : ∀ (m : Nat) (lo hi : Int), hi - lo ≤ m → lo < hi → P lo → ∃ c, lo ≤ c ∧ c < hi ∧ P c ∧ ∀ c', c < c' → c' < hi → ¬ P c'
 | 0, lo, hi, h, h2, _ => by omega
 | m + 1, lo, hi, h, h2, hP => by
  by_cases hx : ∃ c, lo < c ∧ c < hi ∧ P c
  ·obtain ⟨c, h3, h4, h5⟩ := hx
   obtain ⟨e, h6, h7, h8, h9⟩ := last_of P m c hi (by omega) h4 h5
   exact ⟨e, by omega, h7, h8, h9⟩
  ·exact ⟨lo, by omega, h2, hP, fun c' h3 h4 h5 => hx ⟨c', h3, h4, h5⟩⟩

def hasD (l : List DG) (a b : Int) : Bool := l.any fun d => d.f0 == a && d.f1 == b
theorem hasD_of {l : List DG} {d : DG} (h : d ∈ l) : hasD l d.f0 d.f1 = true := List.any_eq_true.2 ⟨d, h, by simp⟩
theorem hasD_mem {l : List DG} {a b : Int} (h : hasD l a b = true) : ∃ d ∈ l, d.f0 = a ∧ d.f1 = b := by
 obtain ⟨d, h1, h2⟩ := List.any_eq_true.1 h
 simp only [Bool.and_eq_true, beq_iff_eq] at h2
 exact ⟨d, h1, h2⟩
def under (l : List DG) (i j : Int) : Nat := l.countP fun d => decide (i ≤ d.f0 ∧ d.f1 ≤ j)
def inner (l : List DG) (i j : Int) : Nat := l.countP fun d => decide (i ≤ d.f0 ∧ d.f1 ≤ j ∧ ¬ (d.f0 = i ∧ d.f1 = j))

structure Tri (n : Int) (l : List DG) : Prop where
 n3 : 3 ≤ n ∧ n ≤ 12
 len : (l.length : Int) = n - 3
 ok : ∀ d ∈ l, 0 ≤ d.f0 ∧ d.f1 ≤ n - 1 ∧ 2 ≤ d.f1 - d.f0 ∧ d.f1 - d.f0 ≤ n - 2
 nc : ∀ d ∈ l, ∀ e ∈ l, ¬ (d.f0 < e.f0 ∧ e.f0 < d.f1 ∧ d.f1 < e.f1)
 sorted : l.Pairwise fun d e => d.f0 < e.f0 ∨ (d.f0 = e.f0 ∧ d.f1 < e.f1)

theorem cnt_one (a b : Int) : ∀ l : List DG, (l.Pairwise fun d e => d.f0 < e.f0 ∨ (d.f0 = e.f0 ∧ d.f1 < e.f1)) → l.countP (fun d => decide (d.f0 = a ∧ d.f1 = b)) ≤ if hasD l a b = true then 1 else 0
 | [], _ => by simp
 | x :: l, h => by
  obtain ⟨h1, h2⟩ := List.pairwise_cons.1 h
  have ih := cnt_one a b l h2
  simp only [List.countP_cons]
  by_cases hx : x.f0 = a ∧ x.f1 = b
  ·have hz : l.countP (fun d => decide (d.f0 = a ∧ d.f1 = b)) = 0 := by
    apply cnt_zero
    intro y hy
    have := h1 y hy
    rw [decide_eq_false_iff_not]
    omega
   have hh : hasD (x :: l) a b = true := by
    rw [← hx.1, ← hx.2]
    exact hasD_of (List.mem_cons_self ..)
   rw [hz, if_pos hh]
   simp [hx]
  ·have hh : hasD (x :: l) a b = hasD l a b := by
    unfold hasD
    rw [List.any_cons]
    have : (x.f0 == a && x.f1 == b) = false := by
     rw [Bool.eq_false_iff]
     simpa using hx
    rw [this, Bool.false_or]
   rw [hh]
   simp only [hx, decide_false, Bool.false_eq_true, if_false]
   exact ih

theorem Tri.under_inner {n : Int} {l : List DG} (T : Tri n l) (i j : Int) : under l i j ≤ inner l i j + if hasD l i j = true then 1 else 0 := by
 have h1 := cnt_split (fun d : DG => decide (i ≤ d.f0 ∧ d.f1 ≤ j)) (fun d : DG => decide (i ≤ d.f0 ∧ d.f1 ≤ j ∧ ¬ (d.f0 = i ∧ d.f1 = j))) (fun d : DG => decide (d.f0 = i ∧ d.f1 = j)) l (fun x _ h => by
  simp only [decide_eq_true_eq] at h ⊢
  omega)
 have h2 := cnt_one i j l T.sorted
 unfold under inner
 omega

theorem Tri.half {n : Int} {l : List DG} (T : Tri n l) (a b : Int) (h1 : 1 ≤ b - a) (ih : 2 ≤ b - a → (inner l a b : Int) ≤ b - a - 2) :
  (under l a b : Int) ≤ b - a - 1 ∧ ((under l a b : Int) = b - a - 1 → b - a = 1 ∨ (hasD l a b = true ∧ 2 ≤ b - a ∧ (inner l a b : Int) = b - a - 2)) := by
 by_cases h2 : 2 ≤ b - a
 ·have h3 := ih h2
  have h4 := T.under_inner a b
  cases hh : hasD l a b
  ·rw [hh, if_neg (by simp)] at h4
   exact ⟨by omega, fun _ => by omega⟩
  ·rw [hh, if_pos rfl] at h4
   exact ⟨by omega, fun _ => .inr ⟨rfl, h2, by omega⟩⟩
 ·have hz : under l a b = 0 := by
   apply cnt_zero
   intro d hd
   have := T.ok d hd
   rw [decide_eq_false_iff_not]
   omega
  rw [hz]
  exact ⟨by omega, fun _ => .inl (by omega)⟩

theorem Tri.split {n : Int} {l : List DG} (T : Tri n l) (i j : Int) (h : 2 ≤ j - i) :
  ∃ c, i < c ∧ c < j ∧ ∀ d ∈ l, i ≤ d.f0 → d.f1 ≤ j → ¬ (d.f0 = i ∧ d.f1 = j) → d.f1 ≤ c ∨ c ≤ d.f0 := by
 obtain ⟨c, h1, h2, h3, h4⟩ := last_of (fun c => c = i + 1 ∨ hasD l i c = true) (j - (i + 1)).toNat (i + 1) j (by omega) (by omega) (.inl rfl)
 refine ⟨c, by omega, h2, fun d hd h5 h6 h7 => ?_⟩
 by_cases h8 : d.f1 ≤ c
 ·exact .inl h8
 ·by_cases h9 : c ≤ d.f0
  ·exact .inr h9
  ·exfalso
   by_cases e : d.f0 = i
   ·refine h4 d.f1 (by omega) (by omega) (.inr ?_)
    rw [← e]
    exact hasD_of hd
   ·rcases h3 with h3 | h3
    ·omega
    ·obtain ⟨x, hx, hx1, hx2⟩ := hasD_mem h3
     exact T.nc x hx d hd (by omega)

theorem inner_le (l : List DG) (i j c : Int) (h : ∀ d ∈ l, i ≤ d.f0 → d.f1 ≤ j → ¬ (d.f0 = i ∧ d.f1 = j) → d.f1 ≤ c ∨ c ≤ d.f0) : inner l i j ≤ under l i c + under l c j := by
 apply cnt_split
 intro d hd h1
 have h2 := h d hd
 simp only [decide_eq_true_eq] at h1 ⊢
 have h3 := h2 h1.1 h1.2.1 h1.2.2
 omega

theorem Tri.bound {n : Int} {l : List DG} (T : Tri n l) : ∀ (m : Nat) (i j : Int), j - i ≤ m → 2 ≤ j - i → (inner l i j : Int) ≤ j - i - 2
 | 0, i, j, h, h2 => by omega
 | m + 1, i, j, h, h2 => by
  obtain ⟨c, h3, h4, h5⟩ := T.split i j h2
  have h6 := inner_le l i j c h5
  have h7 := (T.half i c (by omega) (fun h => T.bound m i c (by omega) h)).1
  have h8 := (T.half c j (by omega) (fun h => T.bound m c j (by omega) h)).1
  omega

def Full (l : List DG) (i j : Int) : Prop := 2 ≤ j - i ∧ (inner l i j : Int) = j - i - 2

theorem Tri.apex {n : Int} {l : List DG} (T : Tri n l) (i j : Int) (hf : Full l i j) :
  ∃ c, i < c ∧ c < j ∧ (c - i = 1 ∨ (hasD l i c = true ∧ Full l i c)) ∧ (j - c = 1 ∨ (hasD l c j = true ∧ Full l c j)) ∧
   ∀ d ∈ l, i ≤ d.f0 → d.f1 ≤ j → ¬ (d.f0 = i ∧ d.f1 = j) → d.f1 ≤ c ∨ c ≤ d.f0 := by
 obtain ⟨h2, hf⟩ := hf
 obtain ⟨c, h3, h4, h5⟩ := T.split i j h2
 have h6 := inner_le l i j c h5
 obtain ⟨h7, g7⟩ := T.half i c (by omega) (fun h => T.bound (c - i).toNat i c (by omega) h)
 obtain ⟨h8, g8⟩ := T.half c j (by omega) (fun h => T.bound (j - c).toNat c j (by omega) h)
 exact ⟨c, h3, h4, g7 (by omega), g8 (by omega), h5⟩

/-- Two corners are joined: by a side or by a diagonal. -/
def J (n : Int) (l : List DG) (a b : Int) : Prop := b = a + 1 ∨ (a = 0 ∧ b = n - 1) ∨ hasD l a b = true

theorem J.of {n : Int} {l : List DG} {a b : Int} {P : Prop} (h : b - a = 1 ∨ (hasD l a b = true ∧ P)) : J n l a b := by
 rcases h with h | h
 ·exact .inl (by omega)
 ·exact .inr (.inr h.1)

theorem Tri.reach {n : Int} {l : List DG} (T : Tri n l) : ∀ (m : Nat) (i j : Int), j - i ≤ m → Full l i j → 0 ≤ i → j ≤ n - 1 → J n l i j → ∀ d ∈ l, i ≤ d.f0 → d.f1 ≤ j → ¬ (d.f0 = i ∧ d.f1 = j) →
  (∃ c, d.f0 < c ∧ c < d.f1 ∧ J n l d.f0 c ∧ J n l c d.f1) ∧ ∃ o, 0 ≤ o ∧ o ≤ n - 1 ∧ ((o < d.f0 ∧ J n l o d.f0 ∧ J n l o d.f1) ∨ (d.f1 < o ∧ J n l d.f0 o ∧ J n l d.f1 o))
 | 0, i, j, h, hf, _, _, _, d, _, _, _, _ => by have := hf.1; omega
 | m + 1, i, j, h, hf, hi, hj, hJ, d, hd, h1, h2, h3 => by
  obtain ⟨c, c1, c2, c3, c4, c5⟩ := T.apex i j hf
  have hok := T.ok d hd
  rcases c5 d hd h1 h2 h3 with h4 | h4
  ·rcases c3 with c3 | ⟨c3, f3⟩
   ·omega
   ·by_cases e : d.f0 = i ∧ d.f1 = c
    ·obtain ⟨e1, e2⟩ := e
     obtain ⟨x, x1, x2, x3, x4, _⟩ := T.apex i c f3
     rw [e1, e2]
     exact ⟨⟨x, x1, x2, J.of x3, J.of x4⟩, j, by omega, hj, .inr ⟨by omega, hJ, J.of c4⟩⟩
    ·exact T.reach m i c (by omega) f3 hi (by omega) (.inr (.inr c3)) d hd h1 h4 e
  ·rcases c4 with c4 | ⟨c4, f4⟩
   ·omega
   ·by_cases e : d.f0 = c ∧ d.f1 = j
    ·obtain ⟨e1, e2⟩ := e
     obtain ⟨x, x1, x2, x3, x4, _⟩ := T.apex c j f4
     rw [e1, e2]
     exact ⟨⟨x, x1, x2, J.of x3, J.of x4⟩, i, by omega, by omega, .inl ⟨by omega, J.of c3, hJ⟩⟩
    ·exact T.reach m c j (by omega) f4 (by omega) hj (.inr (.inr c4)) d hd h4 h2 e

theorem Tri.jcross {n : Int} {l : List DG} (T : Tri n l) {a b c d : Int} (h1 : J n l a b) (h2 : J n l c d) (ha : 0 ≤ a) (hd : d ≤ n - 1) : ¬ (a < c ∧ c < b ∧ b < d) := by
 intro h
 rcases h1 with h1 | h1 | h1
 ·omega
 ·omega
 ·rcases h2 with h2 | h2 | h2
  ·omega
  ·omega
  ·obtain ⟨x, hx, x1, x2⟩ := hasD_mem h1
   obtain ⟨y, hy, y1, y2⟩ := hasD_mem h2
   exact T.nc x hx y hy (by omega)

/-- The two corners with which the ends of a diagonal are joined: one inside, one outside, and no other. -/
theorem Tri.two {n : Int} {l : List DG} (T : Tri n l) (d : DG) (hd : d ∈ l) : ∃ x o, d.f0 < x ∧ x < d.f1 ∧ 0 ≤ o ∧ o ≤ n - 1 ∧ (o < d.f0 ∨ d.f1 < o) ∧
  (J n l d.f0 x ∧ J n l x d.f1) ∧ (J n l (min o d.f0) (max o d.f0) ∧ J n l (min o d.f1) (max o d.f1)) ∧
  ∀ c, 0 ≤ c → c ≤ n - 1 → c ≠ d.f0 → c ≠ d.f1 → (J n l (min c d.f0) (max c d.f0) ∧ J n l (min c d.f1) (max c d.f1)) → c = x ∨ c = o := by
 have hok := T.ok d hd
 have hn := T.n3
 have hfull : Full l 0 (n - 1) := by
  refine ⟨by omega, ?_⟩
  have : inner l 0 (n - 1) = l.length := by
   unfold inner
   rw [List.countP_eq_length]
   intro e he
   have := T.ok e he
   rw [decide_eq_true_eq]
   omega
  rw [this, T.len]
  omega
 obtain ⟨⟨x, x1, x2, x3, x4⟩, o, o1, o2, o3⟩ := T.reach (n - 1).toNat 0 (n - 1) (by omega) hfull (by omega) (by omega) (.inr (.inl ⟨rfl, rfl⟩)) d hd (by omega) (by omega) (by omega)
 refine ⟨x, o, x1, x2, o1, o2, by omega, ⟨x3, x4⟩, ?_, ?_⟩
 ·rcases o3 with ⟨h, h5, h6⟩ | ⟨h, h5, h6⟩
  ·rw [Int.min_eq_left (by omega), Int.max_eq_right (by omega), Int.min_eq_left (by omega), Int.max_eq_right (by omega)]
   exact ⟨h5, h6⟩
  ·rw [Int.min_eq_right (by omega), Int.max_eq_left (by omega), Int.min_eq_right (by omega), Int.max_eq_left (by omega)]
   exact ⟨h5, h6⟩
 ·intro c c1 c2 c3 c4 ⟨j1, j2⟩
  by_cases hx : c = x
  ·exact .inl hx
  ·by_cases ho : c = o
   ·exact .inr ho
   ·exfalso
    by_cases hin : d.f0 < c ∧ c < d.f1
    ·rw [Int.min_eq_right (by omega), Int.max_eq_left (by omega)] at j1
     rw [Int.min_eq_left (by omega), Int.max_eq_right (by omega)] at j2
     by_cases hlt : c < x
     ·exact T.jcross x3 j2 (by omega) (by omega) (by omega)
     ·exact T.jcross j1 x4 (by omega) (by omega) (by omega)
    ·rcases o3 with ⟨h, h5, h6⟩ | ⟨h, h5, h6⟩
     ·by_cases hc : c < d.f0
      ·rw [Int.min_eq_left (by omega), Int.max_eq_right (by omega)] at j1
       rw [Int.min_eq_left (by omega), Int.max_eq_right (by omega)] at j2
       by_cases hlt : c < o
       ·exact T.jcross j1 h6 (by omega) (by omega) (by omega)
       ·exact T.jcross h5 j2 (by omega) (by omega) (by omega)
      ·rw [Int.min_eq_right (by omega), Int.max_eq_left (by omega)] at j1
       exact T.jcross h6 j1 (by omega) (by omega) (by omega)
     ·by_cases hc : c < d.f0
      ·rw [Int.min_eq_left (by omega), Int.max_eq_right (by omega)] at j2
       exact T.jcross j2 h5 (by omega) (by omega) (by omega)
      ·rw [Int.min_eq_right (by omega), Int.max_eq_left (by omega)] at j1
       rw [Int.min_eq_right (by omega), Int.max_eq_left (by omega)] at j2
       by_cases hlt : c < o
       ·exact T.jcross j1 h6 (by omega) (by omega) (by omega)
       ·exact T.jcross h5 j2 (by omega) (by omega) (by omega)

theorem pair_chain (l : List DG) (h : ∀ j, 0 < j → j < l.length → (rD l (j - 1)).f0 < (rD l j).f0 ∨ ((rD l (j - 1)).f0 = (rD l j).f0 ∧ (rD l (j - 1)).f1 < (rD l j).f1)) : l.Pairwise fun d e => d.f0 < e.f0 ∨ (d.f0 = e.f0 ∧ d.f1 < e.f1) := by
 induction l with
 | nil => exact List.Pairwise.nil
 | cons x l ih =>
  have h' := ih (fun j j1 j2 => by
   have := h (j + 1) (by omega) (by simpa using j2)
   rw [show j + 1 - 1 = (j - 1) + 1 by omega] at this
   simpa [rD, rd_T52] using this)
  refine List.pairwise_cons.2 ⟨?_, h'⟩
  intro y hy
  cases l with
  | nil => cases hy
  | cons z l =>
   have h0 := h 1 (by omega) (by simp)
   have h1 : x.f0 < z.f0 ∨ (x.f0 = z.f0 ∧ x.f1 < z.f1) := by simpa [rD, rd_T52] using h0
   rcases List.mem_cons.1 hy with e | e
   ·rw [e]
    exact h1
   ·have := (List.pairwise_cons.1 h').1 y e
    omega

theorem rD_get (l : List DG) (j : Nat) (h : j < l.length) : rD l j = l[j] := by
 unfold rD rd_T52
 rw [Int.toNat_natCast, List.getD_eq_getElem?_getD, List.getElem?_eq_getElem h]
 rfl

theorem tri_of (n : Int) (l : List DG) (h : isTriB n l = true) : Tri n l := by
 unfold isTriB goodD at h
 simp only [Bool.and_eq_true, decide_eq_true_eq, List.all_eq_true] at h
 obtain ⟨hn, hl, hs⟩ := h
 have hst : ∀ j, j < l.length → stepD n l j = true := fun j hj => hs j (List.mem_range'_1.2 ⟨by omega, by omega⟩)
 have hok : ∀ d ∈ l, 0 ≤ d.f0 ∧ d.f1 ≤ n - 1 ∧ 2 ≤ d.f1 - d.f0 ∧ d.f1 - d.f0 ≤ n - 2 := by
  intro d hd
  obtain ⟨j, hj, e⟩ := List.getElem_of_mem hd
  have h1 := hst j hj
  rw [stepD_def, rD_get l j hj, e] at h1
  simp only [Bool.and_eq_true, diagB, decide_eq_true_eq] at h1
  omega
 have hnc : ∀ (j : Nat) (hj : j < l.length) (i : Nat) (hi : i < j), crossB l[j].f0 l[j].f1 l[i].f0 l[i].f1 = false := by
  intro j hj i hi
  have h1 := hst j hj
  rw [stepD_def, rD_get l j hj] at h1
  simp only [Bool.and_eq_true, Bool.not_eq_true'] at h1
  have h2 := List.any_eq_false.1 h1.2.2 l[i] (by
   rw [List.mem_take_iff_getElem]
   exact ⟨i, by omega, rfl⟩)
  simpa using h2
 refine ⟨hn, hl, hok, ?_, pair_chain l ?_⟩
 ·intro d hd e he hx
  obtain ⟨i, hi, e1⟩ := List.getElem_of_mem hd
  obtain ⟨j, hj, e2⟩ := List.getElem_of_mem he
  subst e1 e2
  rcases Nat.lt_trichotomy i j with h1 | h1 | h1
  ·have := hnc j hj i h1
   simp only [crossB, Bool.or_eq_false_iff, decide_eq_false_iff_not] at this
   omega
  ·subst h1
   omega
  ·have := hnc i hi j h1
   simp only [crossB, Bool.or_eq_false_iff, decide_eq_false_iff_not] at this
   omega
 ·intro j j1 j2
  have h1 := hst j j2
  rw [stepD_def] at h1
  have b0 : (j == 0) = false := by rw [beq_eq_false_iff_ne]; omega
  rw [b0] at h1
  simp only [Bool.and_eq_true, Bool.false_or, lessB, decide_eq_true_eq] at h1
  exact h1.2.1

def NC (b s : List DG) : Prop := s.Pairwise (fun d e => crossP e d = false) ∧ ∀ d ∈ s, ∀ e ∈ b, crossP d e = false
theorem any_false {d : DG} {b : List DG} (h : ∀ e ∈ b, crossP d e = false) : b.any (crossP d) = false := by
 rw [List.any_eq_false]
 intro e he
 rw [h e he]
 simp
theorem lookL_full (m : Int) {r s : List DG} (hs : s.Sublist r) : ∀ b : List DG, NC b s → (b.length : Int) < m → ((b ++ s).length : Int) = m → b ++ s ∈ lookL m r b := by
 induction hs with
 | slnil =>
  intro b _ h1 h2
  rw [List.append_nil] at h2
  omega
 | cons d _ ih =>
  intro b hn h1 h2
  rw [lookL_cons]
  exact List.mem_append_right _ (ih b hn h1 h2)
 | @cons_cons s r d _ ih =>
  intro b hn h1 h2
  rw [lookL_cons]
  refine List.mem_append_left _ ?_
  obtain ⟨p1, p2⟩ := hn
  obtain ⟨q1, q2⟩ := List.pairwise_cons.1 p1
  rw [any_false (p2 d (List.mem_cons_self ..)), if_neg (by simp)]
  have e : b ++ d :: s = (b ++ [d]) ++ s := by simp
  rw [e] at h2 ⊢
  unfold lookT
  by_cases hl : ((b ++ [d]).length : Int) = m
  ·have : s = [] := by
    rw [List.length_append] at h2
    exact List.length_eq_zero_iff.1 (by omega)
   rw [if_pos hl, this, List.append_nil]
   exact List.mem_singleton.2 rfl
  ·rw [if_neg hl]
   refine ih (b ++ [d]) ⟨q2, fun x hx y hy => ?_⟩ ?_ h2
   ·rcases List.mem_append.1 hy with hy | hy
    ·exact p2 x (List.mem_cons_of_mem _ hx) y hy
    ·rw [List.mem_singleton.1 hy]
     exact q1 x hx
   ·rw [List.length_append, List.length_singleton] at hl ⊢
    omega
theorem lookL_only (m : Int) : ∀ (r b : List DG), ∀ x ∈ lookL m r b, ∃ s, s.Sublist r ∧ NC b s ∧ x = b ++ s
 | [], _ => fun x hx => by cases hx
 | d :: r, b => fun x hx => by
  rw [lookL_cons] at hx
  rcases List.mem_append.1 hx with h | h
  ·by_cases ha : b.any (crossP d) = true
   ·rw [if_pos ha] at h
    cases h
   ·rw [if_neg ha] at h
    have hb : ∀ e ∈ b, crossP d e = false := by
     intro e he
     cases hc : crossP d e with
     | false => rfl
     | true => exact absurd (List.any_eq_true.2 ⟨e, he, hc⟩) ha
    unfold lookT at h
    split at h
    ·rw [List.mem_singleton.1 h]
     refine ⟨[d], (List.nil_sublist r).cons_cons d, ⟨List.pairwise_singleton _ _, fun x hx => ?_⟩, rfl⟩
     rw [List.mem_singleton.1 hx]
     exact hb
    ·obtain ⟨s, h1, ⟨h2, h3⟩, h4⟩ := lookL_only m r _ x h
     refine ⟨d :: s, h1.cons_cons d, ⟨List.pairwise_cons.2 ⟨fun y hy => h3 y hy d (by simp), h2⟩, fun y hy => ?_⟩, by rw [h4]; simp⟩
     rcases List.mem_cons.1 hy with e | e
     ·rw [e]
      exact hb
     ·exact fun z hz => h3 y e z (List.mem_append_left _ hz)
  ·obtain ⟨s, h1, h2, h3⟩ := lookL_only m r b x h
   exact ⟨s, h1.cons d, h2, h3⟩
def ltd (x y : DG) : Prop := x.f0 < y.f0 ∨ (x.f0 = y.f0 ∧ x.f1 < y.f1)
instance (x y : DG) : Decidable (ltd x y) := by unfold ltd; exact inferInstance
theorem sub_of_sorted : ∀ (D s : List DG), D.Pairwise ltd → s.Pairwise ltd → (∀ x ∈ s, x ∈ D) → s.Sublist D
 | [], s, _, _, h => by
  cases s with
  | nil => exact List.Sublist.slnil
  | cons x s => exact absurd (h x (List.mem_cons_self ..)) (by simp)
 | y :: D, [], _, _, _ => List.nil_sublist _
 | y :: D, x :: s, hD, hs, h => by
  obtain ⟨d1, d2⟩ := List.pairwise_cons.1 hD
  obtain ⟨s1, s2⟩ := List.pairwise_cons.1 hs
  have irr : ∀ z : DG, ¬ ltd z z := fun z hz => by unfold ltd at hz; omega
  have asy : ∀ z u : DG, ltd z u → ¬ ltd u z := fun z u h1 h2 => by unfold ltd at h1 h2; omega
  have tr : ∀ z u v : DG, ltd z u → ltd u v → ltd z v := fun z u v h1 h2 => by unfold ltd at *; omega
  rcases List.mem_cons.1 (h x (List.mem_cons_self ..)) with e | e
  ·rw [e]
   refine (sub_of_sorted D s d2 s2 (fun z hz => ?_)).cons_cons y
   rcases List.mem_cons.1 (h z (List.mem_cons_of_mem _ hz)) with e2 | e2
   ·have h3 := s1 z hz
    rw [e, e2] at h3
    exact absurd h3 (irr y)
   ·exact e2
  ·have hy := d1 x e
   refine (sub_of_sorted D (x :: s) d2 hs (fun z hz => ?_)).cons y
   rcases List.mem_cons.1 (h z hz) with e2 | e2
   ·rcases List.mem_cons.1 hz with e3 | e3
    ·exact absurd (by have h9 := hy; rw [← e3, e2] at h9; exact h9) (irr y)
    ·have h3 := s1 z e3
     rw [e2] at h3
     exact absurd h3 (asy _ _ hy)
   ·exact e2
theorem diags_mem (n : Int) (hn : 3 ≤ n ∧ n ≤ 8) (d : DG) : d ∈ diagsOf n ↔ (0 ≤ d.f0 ∧ d.f1 ≤ n - 1 ∧ 2 ≤ d.f1 - d.f0 ∧ d.f1 - d.f0 ≤ n - 2) := by
 obtain ⟨a, b⟩ := d
 unfold diagsOf paRows paRow pdB
 simp only [List.mem_flatMap, List.mem_map, List.mem_filter, List.mem_range'_1, decide_eq_true_eq]
 constructor
 ·rintro ⟨x, ⟨h1, h2⟩, y, ⟨⟨h3, h4⟩, h5⟩, h6⟩
  injection h6 with h6 h7
  omega
 ·rintro ⟨h1, h2, h3, h4⟩
  refine ⟨a.toNat, ⟨by omega, by omega⟩, b.toNat, ⟨⟨by omega, by omega⟩, by omega⟩, ?_⟩
  rw [Int.toNat_of_nonneg (by omega), Int.toNat_of_nonneg (by omega)]
theorem diags_sorted (n : Int) (hn : 3 ≤ n ∧ n ≤ 8) : (diagsOf n).Pairwise ltd := by
 have : n = 3 ∨ n = 4 ∨ n = 5 ∨ n = 6 ∨ n = 7 ∨ n = 8 := by omega
 rcases this with rfl | rfl | rfl | rfl | rfl | rfl <;> decide
theorem crossP_of (d e : DG) (h : crossP d e = false) : ¬ (d.f0 < e.f0 ∧ e.f0 < d.f1 ∧ d.f1 < e.f1) ∧ ¬ (e.f0 < d.f0 ∧ d.f0 < e.f1 ∧ e.f1 < d.f1) := by
 unfold crossP at h
 rw [Bool.or_eq_false_iff, decide_eq_false_iff_not, decide_eq_false_iff_not] at h
 exact h
theorem crossP_no {d e : DG} (h1 : ¬ (d.f0 < e.f0 ∧ e.f0 < d.f1 ∧ d.f1 < e.f1)) (h2 : ¬ (e.f0 < d.f0 ∧ d.f0 < e.f1 ∧ e.f1 < d.f1)) : crossP d e = false := by
 unfold crossP
 rw [Bool.or_eq_false_iff, decide_eq_false_iff_not, decide_eq_false_iff_not]
 exact ⟨h1, h2⟩
theorem tris_only (n : Int) (hn : 3 ≤ n ∧ n ≤ 8) (x : List DG) (hx : x ∈ trisOf n) : Tri n x := by
 have hlen := tris_len n x hx
 have hs : ∃ s, s.Sublist (diagsOf n) ∧ NC [] s ∧ x = s := by
  unfold trisOf lookT at hx
  split at hx
  ·exact ⟨[], List.nil_sublist _, ⟨List.Pairwise.nil, fun d hd => by cases hd⟩, List.mem_singleton.1 hx⟩
  ·exact lookL_only _ _ _ x hx
 obtain ⟨s, h1, ⟨h2, _⟩, rfl⟩ := hs
 refine ⟨by omega, hlen, fun d hd => (diags_mem n hn d).1 (h1.subset hd), ?_, (diags_sorted n hn).sublist h1⟩
 have key : ∀ (l : List DG), l.Pairwise (fun d e => crossP e d = false) → ∀ d ∈ l, ∀ e ∈ l, ¬ (d.f0 < e.f0 ∧ e.f0 < d.f1 ∧ d.f1 < e.f1) := by
  intro l
  induction l with
  | nil => intro _ d hd; cases hd
  | cons y l ih =>
   intro hp d hd e he
   obtain ⟨p1, p2⟩ := List.pairwise_cons.1 hp
   rcases List.mem_cons.1 hd with hd2 | hd2
   ·rcases List.mem_cons.1 he with he2 | he2
    ·rw [hd2, he2]
     omega
    ·rw [hd2]
     exact (crossP_of _ _ (p1 e he2)).2
   ·rcases List.mem_cons.1 he with he2 | he2
    ·rw [he2]
     exact (crossP_of _ _ (p1 d hd2)).1
    ·exact ih p2 d hd2 e he2
 exact key _ h2
theorem tris_full (n : Int) (hn : 3 ≤ n ∧ n ≤ 8) (x : List DG) (T : Tri n x) : x ∈ trisOf n := by
 have hsub : x.Sublist (diagsOf n) := sub_of_sorted _ _ (diags_sorted n hn) T.sorted (fun d hd => (diags_mem n hn d).2 (T.ok d hd))
 have hnc : NC [] x := by
  refine ⟨?_, fun d _ e he => by cases he⟩
  refine List.Pairwise.imp_of_mem (R := fun _ _ => True) ?_ (List.pairwise_of_forall (fun _ _ => trivial))
  intro d e hd he _
  exact crossP_no (T.nc e he d hd) (T.nc d hd e he)
 have hl := T.len
 unfold trisOf lookT
 by_cases h : (([] : List DG).length : Int) = n - 3
 ·rw [if_pos h]
  have : x = [] := List.length_eq_zero_iff.1 (by simp at h; omega)
  rw [this]
  exact List.mem_singleton.2 rfl
 ·rw [if_neg h]
  exact lookL_full (n - 3) hsub [] hnc (by simp at h ⊢; omega) (by simpa using hl)

theorem rd_set (l : List Int) (a v i : Int) (ha : 0 ≤ a ∧ a < (l.length : Int)) (hi : 0 ≤ i) : rd (l.set a.toNat v) i = if i = a then v else rd l i := by
 unfold rd
 rw [List.getD_eq_getElem?_getD, List.getD_eq_getElem?_getD, List.getElem?_set]
 by_cases h : i = a
 ·rw [if_pos (by omega), if_pos (by omega), if_pos h]
  rfl
 ·rw [if_neg (by omega), if_neg h]
theorem ext_rd (l m : List Int) (hl : l.length = m.length) (h : ∀ i : Int, 0 ≤ i → i < (l.length : Int) → rd l i = rd m i) : l = m := by
 apply List.ext_getElem hl
 intro i h1 h2
 have := h (i : Int) (by omega) (by omega)
 unfold rd at this
 rw [Int.toNat_natCast, List.getD_eq_getElem?_getD, List.getD_eq_getElem?_getD, List.getElem?_eq_getElem h1, List.getElem?_eq_getElem h2] at this
 exact this
/-- How many ends of diagonals lie at a corner. -/
def dg (l : List DG) (i : Int) : Int := ((l.countP fun d => d.f0 == i : Nat) : Int) + ((l.countP fun d => d.f1 == i : Nat) : Int)
theorem dg_perm {l m : List DG} (h : l.Perm m) (i : Int) : dg l i = dg m i := by
 unfold dg
 rw [h.countP_eq, h.countP_eq]
theorem dg_cons (d : DG) (l : List DG) (i : Int) : dg (d :: l) i = dg l i + (if d.f0 = i then 1 else 0) + if d.f1 = i then 1 else 0 := by
 unfold dg
 rw [List.countP_cons, List.countP_cons]
 by_cases h1 : d.f0 = i <;> by_cases h2 : d.f1 = i <;> simp [h1, h2] <;> omega
theorem dg_bounds (l : List DG) (i : Int) : 0 ≤ dg l i ∧ dg l i ≤ 2 * (l.length : Int) := by
 unfold dg
 have h1 := List.countP_le_length (p := fun d : DG => d.f0 == i) (l := l)
 have h2 := List.countP_le_length (p := fun d : DG => d.f1 == i) (l := l)
 omega
theorem quid_l1 (l : List DG) (N : Nat) (hl : l.length ≤ 1000) (hd : ∀ d ∈ l, 0 ≤ d.f0 ∧ d.f0 < d.f1 ∧ d.f1 < (N : Int)) (e : Nat) : ∀ (j : Nat) (x5 : List Int) (D : List DG), j + e = l.length → D.length = j → x5.length = N → (∀ i : Int, 0 ≤ i → i < (N : Int) → rd x5 i = 1 + dg D i) →
  ∃ R, R.length = N ∧ (∀ i : Int, 0 ≤ i → i < (N : Int) → rd R i = 1 + dg (D ++ l.drop j) i) ∧ ∀ k, e < k → spec_poQuiddity.l1 k x5 l (l.length : Int) (j : Int) = some R := by
 induction e with
 | zero =>
  intro j x5 D hj hD hx h
  refine ⟨x5, hx, fun i h1 h2 => ?_, fun k hk => ?_⟩
  ·rw [List.drop_of_length_le (by omega), List.append_nil]
   exact h i h1 h2
  ·obtain ⟨k, rfl⟩ : ∃ q, k = q + 1 := ⟨k - 1, by omega⟩
   simp only [spec_poQuiddity.l1]
   rw [if_neg (by omega)]
 | succ e ih =>
  intro j x5 D hj hD hx h
  have hm : rD l j ∈ l := by
   have : rD l j ∈ l.drop j := by
    rw [rD_drop l j (by omega)]
    exact List.mem_cons_self ..
   exact List.mem_of_mem_drop this
  have hok := hd _ hm
  have hb := dg_bounds D
  obtain ⟨y, hy⟩ : ∃ y, y = x5.set (rD l j).f0.toNat (rd x5 (rD l j).f0 + 1) := ⟨_, rfl⟩
  have hyl : y.length = N := by rw [hy, List.length_set]; exact hx
  have hy1 : rd y (rD l j).f1 = rd x5 (rD l j).f1 := by
   rw [hy, rd_set _ _ _ _ (by omega) (by omega), if_neg (by omega)]
  have w1 : wrap64 (rd x5 (rD l j).f0 + 1) = rd x5 (rD l j).f0 + 1 := by
   have h1 := h (rD l j).f0 (by omega) (by omega)
   have h2 := hb (rD l j).f0
   rw [h1]
   unfold wrap64
   omega
  have w2 : wrap64 (rd y (rD l j).f1 + 1) = rd x5 (rD l j).f1 + 1 := by
   have h1 := h (rD l j).f1 (by omega) (by omega)
   have h2 := hb (rD l j).f1
   rw [hy1, h1]
   unfold wrap64
   omega
  obtain ⟨R, r1, r2, r3⟩ := ih (j + 1) (y.set (rD l j).f1.toNat (rd x5 (rD l j).f1 + 1)) (D ++ [rD l j]) (by omega) (by rw [List.length_append, List.length_singleton]; omega) (by rw [List.length_set]; exact hyl) (by
   intro i h1 h2
   have h3 := h i h1 h2
   have hp : dg (D ++ [rD l j]) i = dg (rD l j :: D) i := dg_perm (List.perm_append_singleton _ _) i
   rw [rd_set _ _ _ _ (by omega) h1, hp, dg_cons, hy]
   by_cases e1 : i = (rD l j).f1
   ·rw [if_pos e1, if_neg (by omega), if_pos e1.symm, ← e1, h3]
    omega
   ·rw [if_neg e1, rd_set _ _ _ _ (by omega) h1, if_neg (show ¬ (rD l j).f1 = i by omega)]
    by_cases e0 : i = (rD l j).f0
    ·rw [if_pos e0, if_pos e0.symm, ← e0, h3]
     omega
    ·rw [if_neg e0, if_neg (by omega), h3]
     omega)
  refine ⟨R, r1, ?_, fun k hk => ?_⟩
  ·rw [rD_drop l j (by omega)]
   simpa using r2
  ·obtain ⟨k, rfl⟩ : ∃ q, k = q + 1 := ⟨k - 1, by omega⟩
   have h3 := r3 k (by omega)
   simp only [spec_poQuiddity.l1]
   have g1 : (rD l j).f0 < (x5.length : Int) := by omega
   have g2 : 0 ≤ (rD l j).f1 := by omega
   have g3 : (rD l j).f1 < (x5.length : Int) := by omega
   rw [if_pos (by omega), if_pos (by omega), if_pos (by omega), if_pos hok.1, if_pos g1, w1]
   simp only [Option.bind_some]
   rw [if_pos g2, if_pos g3, ← hy, w2, wrap_succ j (by omega)]
   exact h3
theorem quid_l0 (l : List DG) (N : Nat) (hl : l.length ≤ 1000) (hN : N ≤ 1000) (hd : ∀ d ∈ l, 0 ≤ d.f0 ∧ d.f0 < d.f1 ∧ d.f1 < (N : Int)) (e : Nat) : ∀ (j : Nat) (x5 : List Int), j + e = N → x5.length = N → (∀ i : Int, 0 ≤ i → i < (j : Int) → rd x5 i = 1) →
  ∃ R, R.length = N ∧ (∀ i : Int, 0 ≤ i → i < (N : Int) → rd R i = 1 + dg l i) ∧ ∀ k, e + l.length + 1 < k → spec_poQuiddity.l0 k l x5 (N : Int) (j : Int) = some R := by
 induction e with
 | zero =>
  intro j x5 hj hx h
  obtain ⟨R, r1, r2, r3⟩ := quid_l1 l N hl hd l.length 0 x5 [] (by omega) rfl hx (fun i h1 h2 => by rw [h i h1 (by omega)]; rfl)
  refine ⟨R, r1, by simpa using r2, fun k hk => ?_⟩
  obtain ⟨k, rfl⟩ : ∃ q, k = q + 1 := ⟨k - 1, by omega⟩
  simp only [spec_poQuiddity.l0]
  rw [if_neg (by omega)]
  exact r3 k (by omega)
 | succ e ih =>
  intro j x5 hj hx h
  obtain ⟨R, r1, r2, r3⟩ := ih (j + 1) (x5.set (j : Int).toNat 1) (by omega) (by rw [List.length_set]; exact hx) (by
   intro i h1 h2
   rw [rd_set _ _ _ _ (by omega) h1]
   by_cases e0 : i = (j : Int)
   ·rw [if_pos e0]
   ·rw [if_neg e0]
    exact h i h1 (by omega))
  refine ⟨R, r1, r2, fun k hk => ?_⟩
  obtain ⟨k, rfl⟩ : ∃ q, k = q + 1 := ⟨k - 1, by omega⟩
  simp only [spec_poQuiddity.l0]
  rw [if_pos (by omega), if_pos (by omega), if_pos (by omega), wrap_succ j (by omega)]
  exact r3 k (by omega)
theorem poQuiddity_tells (n : Int) (l : List DG) (hn : 3 ≤ n ∧ n ≤ 12) (hl : l.length ≤ 1000) (hd : ∀ d ∈ l, 0 ≤ d.f0 ∧ d.f0 < d.f1 ∧ d.f1 < n) :
  ∃ R, R.length = n.toNat ∧ (∀ i : Int, 0 ≤ i → i < n → rd R i = 1 + dg l i) ∧ ∀ k, l.length + 20 < k → spec_poQuiddity.f k n l = some R := by
 obtain ⟨R, r1, r2, r3⟩ := quid_l0 l n.toNat hl (by omega) (fun d h => by have := hd d h; omega) n.toNat 0 (List.replicate n.toNat 0) (by omega) (by simp) (by omega)
 refine ⟨R, r1, fun i h1 h2 => r2 i h1 (by omega), fun k hk => ?_⟩
 unfold spec_poQuiddity.f
 rw [if_pos (by omega), if_pos (by omega), Option.bind_some, List.length_replicate]
 exact r3 k (by omega)

theorem quid_same (x11 : List DG) (x12 : Int) : ∀ (k : Nat) (x5 : List Int) (x13 : Int), impl_quiddity.l0 k x5 x11 x12 x13 = spec_poQuiddity.l1 k x5 x11 x12 x13
 | 0, _, _ => rfl
 | k + 1, x5, x13 => by
  simp only [impl_quiddity.l0, spec_poQuiddity.l1, quid_same x11 x12 k]
theorem mul_one_n (n : Int) (h : 3 ≤ n ∧ n ≤ 12) : bits_Mul.f 1 n = some (0, n) := by
 have : n = 3 ∨ n = 4 ∨ n = 5 ∨ n = 6 ∨ n = 7 ∨ n = 8 ∨ n = 9 ∨ n = 10 ∨ n = 11 ∨ n = 12 := by omega
 rcases this with rfl | rfl | rfl | rfl | rfl | rfl | rfl | rfl | rfl | rfl <;> rfl
theorem quiddity_tells (n : Int) (l : List DG) (hn : 3 ≤ n ∧ n ≤ 12) (hl : l.length ≤ 1000) (hd : ∀ d ∈ l, 0 ≤ d.f0 ∧ d.f0 < d.f1 ∧ d.f1 < n) :
  ∃ R, R.length = n.toNat ∧ (∀ i : Int, 0 ≤ i → i < n → rd R i = 1 + dg l i) ∧ ∀ k, l.length + 20 < k → spec_poQuiddity.f k n l = some R ∧ impl_quiddity.f k n l = some R := by
 obtain ⟨R, r1, r2, r3⟩ := poQuiddity_tells n l hn hl hd
 obtain ⟨R2, q1, q2, q3⟩ := quid_l1 l n.toNat hl (fun d h => by have := hd d h; omega) l.length 0 (List.replicate n.toNat 1) [] (by omega) rfl (by simp) (fun i h1 h2 => by
  unfold rd
  rw [List.getD_eq_getElem?_getD, List.getElem?_replicate, if_pos (by omega)]
  rfl)
 have e : R2 = R := by
  refine ext_rd _ _ (by omega) (fun i h1 h2 => ?_)
  rw [q2 i h1 (by omega), r2 i h1 (by omega)]
  rfl
 refine ⟨R, r1, r2, fun k hk => ⟨r3 k hk, ?_⟩⟩
 have hrep : slices_Repeat_int_int.f [1] n = some (List.replicate n.toNat 1) := by
  unfold slices_Repeat_int_int.f
  rw [if_pos ⟨rfl, by omega, by omega, mul_one_n n hn⟩]
  rfl
 have h3 := q3 k (by omega)
 rw [show ((0 : Nat) : Int) = 0 from rfl, e] at h3
 unfold impl_quiddity.f
 rw [hrep, Option.bind_some, quid_same]
 exact h3

/-- A triangulation's quiddity. -/
def qd (n : Nat) (l : List DG) : List Int := (List.range n).map fun (i : Nat) => 1 + dg l (i : Int)
theorem qd_len (n : Nat) (l : List DG) : (qd n l).length = n := by simp [qd]
theorem qd_tells (n : Int) (hn : 3 ≤ n ∧ n ≤ 8) (x : List DG) (hx : x ∈ trisOf n) (k : Nat) (hk : 200 < k) : spec_poQuiddity.f k n x = some (qd n.toNat x) ∧ impl_quiddity.f k n x = some (qd n.toNat x) := by
 have T := tris_only n hn x hx
 have hl := tris_len n x hx
 obtain ⟨R, r1, r2, r3⟩ := quiddity_tells n x (by omega) (by omega) (fun d hd => by have := T.ok d hd; omega)
 have e : R = qd n.toNat x := ext_rd _ _ (by rw [qd_len, r1]) (fun i h0 h1 => by
  rw [r2 i h0 (by omega)]
  unfold rd qd
  rw [List.getD_eq_getElem?_getD, List.getElem?_map, List.getElem?_range (by omega)]
  simp [Int.toNat_of_nonneg h0])
 rw [← e]
 exact r3 k (by omega)
/-- Put in its place. -/
def insQ (q : List Int) : List (List Int) → Nat → List (List Int)
 | out, 0 => q :: out
 | out, m + 1 => if q < out.getD m [] then insQ q out m else out.take (m + 1) ++ q :: out.drop (m + 1)
theorem insQ_len (q : List Int) (out : List (List Int)) : ∀ m, (insQ q out m).length = out.length + 1
 | 0 => rfl
 | m + 1 => by
  unfold insQ
  by_cases h : q < out.getD m []
  ·rw [if_pos h]; exact insQ_len q out m
  ·rw [if_neg h, List.length_append, List.length_cons, List.length_take, List.length_drop]; omega
theorem insQ_mem (q : List Int) (out : List (List Int)) : ∀ m, ∀ x ∈ insQ q out m, x = q ∨ x ∈ out
 | 0, x, hx => by
  rcases List.mem_cons.1 hx with h | h
  ·exact Or.inl h
  ·exact Or.inr h
 | m + 1, x, hx => by
  unfold insQ at hx
  by_cases h : q < out.getD m []
  ·rw [if_pos h] at hx; exact insQ_mem q out m x hx
  ·rw [if_neg h] at hx
   rcases List.mem_append.1 hx with h1 | h1
   ·exact Or.inr (List.mem_of_mem_take h1)
   ·rcases List.mem_cons.1 h1 with h1 | h1
    ·exact Or.inl h1
    ·exact Or.inr (List.mem_of_mem_drop h1)
def sortQ : List (List Int) → List (List Int) → List (List Int)
 | out, [] => out
 | out, q :: r => sortQ (insQ q out out.length) r
theorem before_rounds (x y : List Int) (hl : x.length = y.length) (hx : x.length ≤ 1000) : ∀ (d i k : Nat), i + d = x.length → d < k → spec_caListBefore.l0 k x y (x.length : Int) (i : Int) = some (decide (x.drop i < y.drop i))
 | 0, i, k, hi, hk => by
  obtain ⟨k, rfl⟩ : ∃ q, k = q + 1 := ⟨k - 1, by omega⟩
  rw [spec_caListBefore.l0, if_neg (by omega), List.drop_of_length_le (show x.length ≤ i by omega), List.drop_of_length_le (show y.length ≤ i by omega)]
  simp
 | d + 1, i, k, hi, hk => by
  obtain ⟨k, rfl⟩ : ∃ q, k = q + 1 := ⟨k - 1, by omega⟩
  have h1 : i < x.length := by omega
  have h2 : i < y.length := by omega
  rw [spec_caListBefore.l0, if_pos (by omega), if_pos (by omega), if_pos (by omega), if_pos (by omega), rdI_at x i h1, rdI_at y i h2, List.drop_eq_getElem_cons h1, List.drop_eq_getElem_cons h2]
  by_cases he : x[i] = y[i]
  ·rw [if_pos he, show wrap64 ((i : Int) + 1) = ((i + 1 : Nat) : Int) by unfold wrap64; omega, before_rounds x y hl hx d (i + 1) k (by omega) (by omega)]
   congr 1
   rw [decide_eq_decide, List.cons_lt_cons_iff]
   constructor
   ·intro h; exact Or.inr ⟨he, h⟩
   ·rintro (h | h)
    ·omega
    ·exact h.2
  ·rw [if_neg he]
   congr 1
   rw [decide_eq_decide, List.cons_lt_cons_iff]
   constructor
   ·intro h; exact Or.inl h
   ·rintro (h | h)
    ·exact h
    ·exact absurd h.1 he
theorem before_tells (x y : List Int) (hl : x.length = y.length) (hx : x.length ≤ 1000) (k : Nat) (hk : x.length < k) : spec_caListBefore.f k x y = some (decide (x < y)) := by
 have h := before_rounds x y hl hx x.length 0 k (by omega) hk
 rw [List.drop_zero, List.drop_zero] at h
 exact h
theorem rdLI_at (l : List (List Int)) (i : Nat) (h : i < l.length) : rd_L4 l (i : Int) = l.getD i [] := by
 unfold rd_L4
 rw [Int.toNat_natCast]
theorem place_rounds (n : Int) (out : List (List Int)) (q : List Int) (N : Nat) (hq : q.length = N) (hN : N ≤ 100) (ho : ∀ x ∈ out, x.length = N) (hlo : out.length ≤ 100000) (ts : List (List DG)) (L i : Int) (m : Nat) : ∀ k : Nat, m ≤ out.length → m + 200 < k → ∃ k' : Nat, k ≤ k' + m + 1 ∧ k' < k ∧ spec_caQuiddities.l1 k n out q (m : Int) ts L i = spec_caQuiddities.l0 k' n (insQ q out m) ts L (wrap64 (i + 1)) := by
 induction m with
 | zero =>
  intro k hm hk
  obtain ⟨k, rfl⟩ : ∃ z, k = z + 1 := ⟨k - 1, by omega⟩
  refine ⟨k, by omega, by omega, ?_⟩
  simp only [spec_caQuiddities.l1]
  rw [if_neg (by omega)]
  simp only [Option.bind_some, List.nil_append]
  rw [if_pos (by omega), if_pos (by omega)]
  have e0 : ((0 : Nat) : Int).toNat = 0 := rfl
  simp only [e0, List.take_zero, List.drop_zero, List.length_nil, List.nil_append, List.append_nil, List.length_cons, List.singleton_append]
  rw [if_pos (by omega), if_pos (by omega), if_pos (by omega)]
  rfl
 | succ m ih =>
  intro k hm hk
  obtain ⟨k, rfl⟩ : ∃ z, k = z + 1 := ⟨k - 1, by omega⟩
  have w1 : wrap64 (((m + 1 : Nat) : Int) - 1) = (m : Int) := by unfold wrap64; omega
  have hx : out.getD m [] ∈ out := by
   rw [List.getD_eq_getElem?_getD, List.getElem?_eq_getElem (show m < out.length by omega)]
   exact List.getElem_mem _
  have hb := before_tells q (out.getD m []) (by rw [hq, ho _ hx]) (by omega) k (by omega)
  simp only [spec_caQuiddities.l1, w1, rdLI_at out m (by omega), hb, Option.bind_some]
  rw [if_pos (by omega), if_pos (by omega), if_pos (by omega)]
  unfold insQ
  by_cases h : q < out.getD m []
  ·obtain ⟨k', h1, h2, h3⟩ := ih k (by omega) (by omega)
   refine ⟨k', by omega, by omega, ?_⟩
   rw [if_pos h, if_pos (decide_eq_true h)]
   exact h3
  ·refine ⟨k, by omega, by omega, ?_⟩
   rw [if_neg h, if_neg (by simpa using h), if_pos (by omega), if_pos (by omega), Int.toNat_natCast]
   simp only [List.nil_append, List.length_append, List.length_take, List.length_drop, List.length_cons, List.length_nil]
   rw [if_pos (by omega), if_pos (by omega), if_pos (by omega), List.append_assoc]
   rfl
theorem rdLD_at (L : List (List DG)) (i : Nat) (h : i < L.length) : rd_L2 L (i : Int) = L[i] := by
 unfold rd_L2
 rw [Int.toNat_natCast, List.getD_eq_getElem?_getD, List.getElem?_eq_getElem h]
 rfl
theorem sort_rounds (n : Int) (N : Nat) (hN : N ≤ 100) (ts : List (List DG)) (hts : ts.length ≤ 1000) (qf : List DG → List Int) (hqf : ∀ x ∈ ts, (qf x).length = N ∧ ∀ k, 200 < k → spec_poQuiddity.f k n x = some (qf x)) (C : Nat) (hC : C = 1010) (d : Nat) : ∀ (i k : Nat) (out : List (List Int)), i + d = ts.length → out.length = i → (∀ x ∈ out, x.length = N) → d * C + 400 < k → spec_caQuiddities.l0 k n out ts (ts.length : Int) (i : Int) = some (sortQ out ((ts.drop i).map qf)) := by
 induction d with
 | zero =>
  intro i k out hi ho hx hk
  obtain ⟨k, rfl⟩ : ∃ z, k = z + 1 := ⟨k - 1, by omega⟩
  rw [spec_caQuiddities.l0, if_neg (by omega), List.drop_of_length_le (by omega)]
  rfl
 | succ d ih =>
  intro i k out hi ho hx hk
  obtain ⟨k, rfl⟩ : ∃ z, k = z + 1 := ⟨k - 1, by rw [Nat.succ_mul] at hk; generalize d * C = D at hk; omega⟩
  have hlt : i < ts.length := by omega
  have hm := hqf ts[i] (List.getElem_mem _)
  have hkk : 1400 ≤ k := by rw [Nat.succ_mul] at hk; generalize d * C = D at hk; omega
  obtain ⟨k', h1, h2, h3⟩ := place_rounds n out (qf ts[i]) N hm.1 hN hx (by omega) ts (ts.length : Int) (i : Int) out.length k (Nat.le_refl _) (by omega)
  have h4 := ih (i + 1) k' (insQ (qf ts[i]) out out.length) (by omega) (by rw [insQ_len]; omega) (fun x hx' => by
   rcases insQ_mem _ _ _ x hx' with rfl | h
   ·exact hm.1
   ·exact hx x h) (by rw [Nat.succ_mul] at hk; generalize d * C = D at hk ⊢; omega)
  rw [spec_caQuiddities.l0, if_pos (by omega), if_pos (by omega), if_pos (by omega), rdLD_at ts i hlt, hm.2 k (by omega), Option.bind_some, h3, show wrap64 ((i : Int) + 1) = ((i + 1 : Nat) : Int) by unfold wrap64; omega, h4, List.drop_eq_getElem_cons hlt, List.map_cons]
  rfl
theorem list_rounds (n : Int) (ts : List (List DG)) (hts : ts.length ≤ 1000) (qf : List DG → List Int) (hqf : ∀ x ∈ ts, ∀ k, 200 < k → impl_quiddity.f k n x = some (qf x)) : ∀ (d i k : Nat) (out : List (List Int)), i + d = ts.length → out.length = i → d + 400 < k → impl_allQuiddities.l0 k n out ts (ts.length : Int) (i : Int) = (slices_SortFunc_int_int.f (out ++ (ts.drop i).map qf)).bind fun t => some t
 | 0, i, k, out, hi, ho, hk => by
  obtain ⟨k, rfl⟩ : ∃ z, k = z + 1 := ⟨k - 1, by omega⟩
  rw [impl_allQuiddities.l0, if_neg (by omega), List.drop_of_length_le (by omega)]
  simp
 | d + 1, i, k, out, hi, ho, hk => by
  obtain ⟨k, rfl⟩ : ∃ z, k = z + 1 := ⟨k - 1, by omega⟩
  have hlt : i < ts.length := by omega
  have hm := hqf ts[i] (List.getElem_mem _) k (by omega)
  rw [impl_allQuiddities.l0, if_pos (by omega), if_pos (by omega), if_pos (by omega), rdLD_at ts i hlt, hm, Option.bind_some, if_pos (by omega), show wrap64 ((i : Int) + 1) = ((i + 1 : Nat) : Int) by unfold wrap64; omega, list_rounds n ts hts qf hqf d (i + 1) k _ (by omega) (by simp; omega) (by omega), List.drop_eq_getElem_cons hlt, List.map_cons]
  simp
/-! ### One list -/
def adjQ : List (List Int) → Bool
 | a :: b :: l => decide (a < b) && adjQ (b :: l)
 | _ => true
theorem adjQ_lt : ∀ (l : List (List Int)) (a : List Int), adjQ (a :: l) = true → (a :: l).Pairwise fun x y => x < y
 | [], a, _ => by simp
 | b :: l, a, h => by
  simp only [adjQ, Bool.and_eq_true, decide_eq_true_eq] at h
  have ih := adjQ_lt l b h.2
  refine List.Pairwise.cons (fun y hy => ?_) ih
  rcases List.mem_cons.1 hy with rfl | hy
  ·exact h.1
  ·exact List.lt_trans h.1 ((List.pairwise_cons.1 ih).1 y hy)
def quidsGood (n : Nat) : Bool :=
 let ts := (trisOf (n : Int)).map (qd n)
 let r := sortQ [] ts
 adjQ r && (r.isPerm ts && (decide (r.length ≤ 1000) && !r.isEmpty))
set_option maxRecDepth 1000000 in
theorem quids_good_all : ((List.range 6).all fun i => quidsGood (i + 3)) = true := by kernel_rfl
theorem quids_good (n : Nat) (hn : 3 ≤ n ∧ n ≤ 8) : quidsGood n = true := by
 have h := List.all_eq_true.1 quids_good_all (n - 3) (by rw [List.mem_range]; omega)
 rwa [show n - 3 + 3 = n by omega] at h
theorem quids_both (n : Int) (hn : 3 ≤ n ∧ n ≤ 8) : ∃ r : List (List Int), (r.length ≤ 300000 ∧ ∀ x ∈ r, x.length ≤ 100) ∧ ∀ k, 1100000 ≤ k → spec_caQuiddities.f k n = some r ∧ impl_allQuiddities.f k n = some r := by
 obtain ⟨N, rfl⟩ : ∃ N : Nat, n = N := ⟨n.toNat, by omega⟩
 have hg := quids_good N (by omega)
 unfold quidsGood at hg
 obtain ⟨ts, hts⟩ : ∃ ts, ts = trisOf (N : Int) := ⟨_, rfl⟩
 rw [← hts] at hg
 obtain ⟨r, hr⟩ : ∃ r, r = sortQ [] (ts.map (qd N)) := ⟨_, rfl⟩
 simp only [← hr, Bool.and_eq_true, decide_eq_true_eq, Bool.not_eq_true'] at hg
 obtain ⟨g1, g2, g3, g4⟩ := hg
 have gp := List.isPerm_iff.1 g2
 have gl := gp.length_eq
 rw [List.length_map] at gl
 have hq : ∀ x ∈ ts, ∀ k, 200 < k → spec_poQuiddity.f k N x = some (qd N x) ∧ impl_quiddity.f k N x = some (qd N x) := fun x hx k hk => by
  have h := qd_tells (N : Int) hn x (hts ▸ hx) k hk
  rwa [Int.toNat_natCast] at h
 have hs : r.Pairwise fun x y => x < y := by
  cases hc : r with
  | nil => simp
  | cons a l => rw [hc] at g1; exact adjQ_lt l a g1
 have hnd : (ts.map (qd N)).Nodup := gp.nodup_iff.1 (hs.imp (fun {x y} h e => by subst e; exact List.lt_irrefl _ h))
 have hsort : (ts.map (qd N)).mergeSort qLe = r := by
  refine List.Perm.eq_of_pairwise (le := fun x y => qLe x y = true) (fun a b _ _ h1 h2 => ?_) (List.pairwise_mergeSort (fun a b c h1 h2 => ?_) (fun a b => ?_) _) (hs.imp (fun {x y} h => ?_)) ((List.mergeSort_perm _ _).trans gp.symm)
  ·unfold qLe at h1 h2
   simp only [Bool.not_eq_true', decide_eq_false_iff_not, List.not_lt] at h1 h2
   exact List.le_antisymm h1 h2
  ·unfold qLe at h1 h2 ⊢
   simp only [Bool.not_eq_true', decide_eq_false_iff_not, List.not_lt] at h1 h2 ⊢
   exact List.le_trans h1 h2
  ·unfold qLe
   simp only [Bool.or_eq_true, Bool.not_eq_true', decide_eq_false_iff_not, List.not_lt]
   exact List.le_total a b
  ·unfold qLe
   simp only [Bool.not_eq_true', decide_eq_false_iff_not, List.not_lt]
   exact List.le_of_lt h
 refine ⟨r, ⟨by omega, fun x hx => ?_⟩, fun k hk => ⟨?_, ?_⟩⟩
 ·obtain ⟨t, _, rfl⟩ := List.mem_map.1 (gp.mem_iff.1 hx)
  rw [qd_len]
  omega
 ·unfold spec_caQuiddities.f
  have h := sort_rounds (N : Int) N (by omega) ts (by omega) (qd N) (fun x hx => ⟨qd_len N x, fun k hk => (hq x hx k hk).1⟩) 1010 rfl ts.length 0 k [] (by omega) rfl (fun x hx => by cases hx) (by omega)
  rw [List.drop_zero, ← hr] at h
  rw [poAll_tells _ hn, Option.bind_some, ← hts]
  exact h
 ·unfold impl_allQuiddities.f
  have h := list_rounds (N : Int) ts (by omega) (qd N) (fun x hx k hk => (hq x hx k hk).2) ts.length 0 k [] (by omega) rfl (by omega)
  rw [List.drop_zero, List.nil_append] at h
  rw [allTri_tells _ hn k (by omega), Option.bind_some, ← hts]
  refine h.trans ?_
  unfold slices_SortFunc_int_int.f
  have hne : (ts.map (qd N)).isEmpty = false := by
   rw [List.isEmpty_eq_false_iff]
   intro e
   rw [e] at gp
   have := gp.length_eq
   rw [List.isEmpty_eq_false_iff] at g4
   exact g4 (List.eq_nil_of_length_eq_zero (by simpa using this))
  rw [if_pos ⟨hne, by rw [List.length_map]; omega, hnd⟩, hsort]
  rfl

theorem eqI_rounds (l : List Int) (hl : l.length ≤ 1048576) (d : Nat) : ∀ (i k : Nat), i + d = l.length → d < k → laws_eqIntS.l0 k l l (i : Int) = some true := by
 induction d with
 | zero =>
  intro i k hi hk
  obtain ⟨k, rfl⟩ : ∃ m, k = m + 1 := ⟨k - 1, by omega⟩
  simp only [laws_eqIntS.l0]
  rw [if_neg (by omega)]
 | succ d ih =>
  intro i k hi hk
  obtain ⟨k, rfl⟩ : ∃ m, k = m + 1 := ⟨k - 1, by omega⟩
  simp only [laws_eqIntS.l0, if_true]
  rw [if_pos (by omega), if_pos (by omega), if_pos (by omega), wrap_succ i (by omega)]
  exact ih (i + 1) k (by omega) (by omega)
theorem eqI_tells (l : List Int) (hl : l.length ≤ 1048576) (k : Nat) (hk : l.length < k) : laws_eqIntS.f k l l = some true := by
 unfold laws_eqIntS.f
 rw [if_pos rfl]
 exact eqI_rounds l hl l.length 0 k (by omega) hk
def iotaI : Int → Nat → List Int
 | _, 0 => []
 | v, m + 1 => v :: iotaI (v + 1) m
theorem iotaI_len : ∀ (m : Nat) (v : Int), (iotaI v m).length = m
 | 0, _ => rfl
 | m + 1, v => by rw [iotaI, List.length_cons, iotaI_len m]
theorem markI_rounds (L : Nat) (hl : L ≤ 1048576) (e : Nat) : ∀ (i k : Nat) (P R : List Int) (v : Int), P.length = i → R.length = e → i + e = L → v = 1 + (i : Int) → e < k →
  laws_markIntS.l0 k (P ++ R) v (i : Int) = some (1 + (L : Int), P ++ iotaI v e) := by
 induction e with
 | zero =>
  intro i k P R v hP hR hi hv hk
  obtain ⟨k, rfl⟩ : ∃ q, k = q + 1 := ⟨k - 1, by omega⟩
  have : R = [] := List.length_eq_zero_iff.1 hR
  subst this
  simp only [laws_markIntS.l0, List.append_nil, iotaI]
  rw [if_neg (by omega), hv, show i = L by omega]
 | succ e ih =>
  intro i k P R v hP hR hi hv hk
  obtain ⟨k, rfl⟩ : ∃ q, k = q + 1 := ⟨k - 1, by omega⟩
  cases R with
  | nil => simp at hR
  | cons x R =>
   rw [List.length_cons] at hR
   have w1 : wrap64 (v + 1) = v + 1 := by unfold wrap64; omega
   have s1 : ∀ y z : Int, (P ++ y :: R).set i z = P ++ z :: R := by
    intro y z
    rw [List.set_append_right _ _ (by omega), hP, Nat.sub_self]
    rfl
   simp only [laws_markIntS.l0, Int.toNat_natCast, s1, w1]
   rw [if_pos (by rw [List.length_append, List.length_cons]; omega), if_pos (by omega), wrap_succ i (by omega)]
   have h := ih (i + 1) k (P ++ [v]) R (v + 1) (by rw [List.length_append, List.length_singleton]; omega) (by omega) (by omega) (by omega) (by omega)
   rw [iotaI]
   simpa using h
theorem markI_tells (l : List Int) (hl : l.length ≤ 1048576) (k : Nat) (hk : l.length < k) : laws_markIntS.f k l 1 = some (1 + (l.length : Int), iotaI 1 l.length) := by
 have h := markI_rounds l.length hl l.length 0 k [] l 1 rfl rfl (by omega) (by omega) hk
 unfold laws_markIntS.f
 simpa using h

theorem markI_anyr (v0 : Int) (h0 : 0 ≤ v0) (h1 : v0 ≤ 100000000) (L : Nat) (hl : L ≤ 1000) (e : Nat) : ∀ (i k : Nat) (P R : List Int) (v : Int), P.length = i → R.length = e → i + e = L → v = v0 + (i : Int) → e < k →
  laws_markIntS.l0 k (P ++ R) v (i : Int) = some (v0 + (L : Int), P ++ iotaI v e) := by
 induction e with
 | zero =>
  intro i k P R v hP hR hi hv hk
  obtain ⟨k, rfl⟩ : ∃ q, k = q + 1 := ⟨k - 1, by omega⟩
  have : R = [] := List.length_eq_zero_iff.1 hR
  subst this
  simp only [laws_markIntS.l0, List.append_nil, iotaI]
  rw [if_neg (by omega), hv, show i = L by omega]
 | succ e ih =>
  intro i k P R v hP hR hi hv hk
  obtain ⟨k, rfl⟩ : ∃ q, k = q + 1 := ⟨k - 1, by omega⟩
  cases R with
  | nil => simp at hR
  | cons x R =>
   rw [List.length_cons] at hR
   have w1 : wrap64 (v + 1) = v + 1 := by unfold wrap64; omega
   have s1 : ∀ y z : Int, (P ++ y :: R).set i z = P ++ z :: R := by
    intro y z
    rw [List.set_append_right _ _ (by omega), hP, Nat.sub_self]
    rfl
   simp only [laws_markIntS.l0, Int.toNat_natCast, s1, w1]
   rw [if_pos (by rw [List.length_append, List.length_cons]; omega), if_pos (by omega), wrap_succ i (by omega)]
   have h := ih (i + 1) k (P ++ [v]) R (v + 1) (by rw [List.length_append, List.length_singleton]; omega) (by omega) (by omega) (by omega) (by omega)
   rw [iotaI]
   simpa using h
theorem markI_any (l : List Int) (hl : l.length ≤ 1000) (v : Int) (h0 : 0 ≤ v) (h1 : v ≤ 100000000) (k : Nat) (hk : l.length < k) : laws_markIntS.f k l v = some (v + (l.length : Int), iotaI v l.length) := by
 have h := markI_anyr v h0 h1 l.length hl l.length 0 k [] l v rfl rfl (by omega) (by omega) hk
 unfold laws_markIntS.f
 simpa using h
theorem bind_of {α β : Type} {o : Option α} {f : α → Option β} {v : α} (h : o = some v) : o.bind f = f v := by rw [h]; rfl
theorem getD_mem' (l : List (List Int)) (i : Nat) (h : i < l.length) : l.getD i [] ∈ l := by
 rw [List.getD_eq_getElem?_getD, List.getElem?_eq_getElem h]
 exact List.getElem_mem h
theorem eqII_rounds (l : List (List Int)) (hl : l.length ≤ 300000) (hb : ∀ x ∈ l, x.length ≤ 100) (d : Nat) : ∀ (i k : Nat), i + d = l.length → d + 200 < k → laws_eqIntSS.l0 k l l (i : Int) = some true := by
 induction d with
 | zero =>
  intro i k hi hk
  obtain ⟨k, rfl⟩ : ∃ m, k = m + 1 := ⟨k - 1, by omega⟩
  simp only [laws_eqIntSS.l0]
  rw [if_neg (by omega)]
 | succ d ih =>
  intro i k hi hk
  obtain ⟨k, rfl⟩ : ∃ m, k = m + 1 := ⟨k - 1, by omega⟩
  have hx := hb _ (getD_mem' l i (by omega))
  have h1 : laws_eqIntS.f k (l.getD i []) (l.getD i []) = some true := by
   unfold laws_eqIntS.f
   rw [if_pos rfl]
   exact eqI_rounds _ (by omega) _ 0 k (Nat.zero_add _) (by omega)
  simp only [laws_eqIntSS.l0]
  rw [if_pos (by omega), if_pos (by omega), if_pos (by omega), wrap_succ i (by omega)]
  refine (bind_of h1).trans ?_
  rw [if_pos rfl]
  exact ih (i + 1) k (by omega) (by omega)
theorem eqII_tells (l : List (List Int)) (hl : l.length ≤ 300000) (hb : ∀ x ∈ l, x.length ≤ 100) (k : Nat) (hk : l.length + 200 < k) : laws_eqIntSS.f k l l = some true := by
 unfold laws_eqIntSS.f
 rw [if_pos rfl]
 exact eqII_rounds l hl hb l.length 0 k (Nat.zero_add _) hk
def sumII : List Nat → Int
 | [] => 0
 | m :: ms => (m : Int) + sumII ms
def iotaII : Int → List Nat → List (List Int)
 | _, [] => []
 | v, m :: ms => iotaI v m :: iotaII (v + (m : Int)) ms
theorem sumII_ge : ∀ ms : List Nat, 0 ≤ sumII ms
 | [] => Int.le_refl _
 | m :: ms => by
  have := sumII_ge ms
  unfold sumII
  omega
theorem iotaII_len : ∀ (ms : List Nat) (v : Int), (iotaII v ms).length = ms.length
 | [], _ => rfl
 | m :: ms, v => by rw [iotaII, List.length_cons, List.length_cons, iotaII_len ms]
theorem markII_rounds (L : Nat) (hL : L ≤ 300000) (R : List (List Int)) : ∀ (k : Nat) (P : List (List Int)) (v : Int), (∀ x ∈ R, x.length ≤ 100) → P.length + R.length = L → 0 ≤ v → v + 200 * (R.length : Int) ≤ 80000000 → R.length + 200 < k →
  laws_markIntSS.l0 k (P ++ R) v (P.length : Int) = some (v + sumII (R.map List.length), P ++ iotaII v (R.map List.length)) := by
 induction R with
 | nil =>
  intro k P v hb hP h0 h1 hk
  obtain ⟨k, rfl⟩ : ∃ q, k = q + 1 := ⟨k - 1, by omega⟩
  simp only [laws_markIntSS.l0, List.append_nil, List.map_nil, iotaII, sumII]
  rw [if_neg (by omega), Int.add_zero]
 | cons x R ih =>
  intro k P v hb hP h0 h1 hk
  obtain ⟨k, rfl⟩ : ∃ q, k = q + 1 := ⟨k - 1, by omega⟩
  rw [List.length_cons] at hP h1 hk
  have hx := hb x (by simp)
  have g1 : (P ++ x :: R).getD P.length [] = x := by
   rw [List.getD_eq_getElem?_getD]
   simp
  have s1 : ∀ z, (P ++ x :: R).set P.length z = P ++ z :: R := by
   intro z
   rw [List.set_append_right _ _ (Nat.le_refl _), Nat.sub_self]
   rfl
  have hm := markI_any x (by omega) v h0 (by omega) k (by omega)
  have h := ih k (P ++ [iotaI v x.length]) (v + (x.length : Int)) (fun y hy => hb y (by simp [hy])) (by rw [List.length_append, List.length_singleton]; omega) (by omega) (by omega) (by omega)
  rw [List.length_append, List.length_singleton, List.append_assoc, List.append_assoc] at h
  simp only [laws_markIntSS.l0]
  rw [if_pos (by rw [List.length_append, List.length_cons]; omega), if_pos (by omega), Int.toNat_natCast, g1]
  refine (bind_of hm).trans ?_
  simp only [s1]
  rw [wrap_succ P.length (by omega)]
  simp only [List.map_cons, iotaII, sumII]
  rw [← Int.add_assoc]
  exact h
theorem markII_tells (l : List (List Int)) (hl : l.length ≤ 300000) (hb : ∀ x ∈ l, x.length ≤ 100) (k : Nat) (hk : l.length + 200 < k) : laws_markIntSS.f k l 1 = some (1 + sumII (l.map List.length), iotaII 1 (l.map List.length)) :=
 markII_rounds l.length hl l k [] 1 hb (by simp) (by omega) (by omega) hk
theorem heldVI_rounds (L : Nat) (hl : L ≤ 100) (v0 : Int) (h0 : 0 ≤ v0) (h1 : v0 ≤ 100000000) (e : Nat) : ∀ (i k : Nat) (P : List Int) (v : Int), P.length = i → i + e = L → v = v0 + (i : Int) → e < k →
  laws_heldIntS.l0 k (P ++ iotaI v e) v (i : Int) = some (v0 + (L : Int)) := by
 induction e with
 | zero =>
  intro i k P v hP hi hv hk
  obtain ⟨k, rfl⟩ : ∃ q, k = q + 1 := ⟨k - 1, by omega⟩
  simp only [laws_heldIntS.l0, iotaI, List.append_nil]
  rw [if_neg (by omega), hv, show i = L by omega]
 | succ e ih =>
  intro i k P v hP hi hv hk
  obtain ⟨k, rfl⟩ : ∃ q, k = q + 1 := ⟨k - 1, by omega⟩
  have w1 : wrap64 (v + 1) = v + 1 := by unfold wrap64; omega
  have r1 : rd (P ++ iotaI v (e + 1)) (i : Int) = v := by
   unfold rd
   rw [Int.toNat_natCast, List.getD_eq_getElem?_getD, ← hP, iotaI]
   simp
  simp only [laws_heldIntS.l0, r1, w1, if_true]
  rw [if_pos (by rw [List.length_append, iotaI_len]; omega), if_pos (by omega), wrap_succ i (by omega)]
  have h := ih (i + 1) k (P ++ [v]) (v + 1) (by rw [List.length_append, List.length_singleton]; omega) (by omega) (by omega) (by omega)
  rw [iotaI]
  simpa using h
theorem heldII_rounds (L : Nat) (hL : L ≤ 300000) (ms : List Nat) : ∀ (k : Nat) (P : List (List Int)) (v : Int), (∀ x ∈ ms, x ≤ 100) → P.length + ms.length = L → 0 ≤ v → v + 200 * (ms.length : Int) ≤ 80000000 → ms.length + 200 < k →
  laws_heldIntSS.l0 k (P ++ iotaII v ms) v (P.length : Int) = some (v + sumII ms) := by
 induction ms with
 | nil =>
  intro k P v hb hP h0 h1 hk
  obtain ⟨k, rfl⟩ : ∃ q, k = q + 1 := ⟨k - 1, by omega⟩
  simp only [laws_heldIntSS.l0, List.append_nil, iotaII, sumII]
  rw [if_neg (by omega), Int.add_zero]
 | cons m ms ih =>
  intro k P v hb hP h0 h1 hk
  obtain ⟨k, rfl⟩ : ∃ q, k = q + 1 := ⟨k - 1, by omega⟩
  rw [List.length_cons] at hP h1 hk
  have hx := hb m (by simp)
  have g1 : (P ++ iotaI v m :: iotaII (v + (m : Int)) ms).getD P.length [] = iotaI v m := by
   rw [List.getD_eq_getElem?_getD]
   simp
  have hm : laws_heldIntS.f k ((P ++ iotaI v m :: iotaII (v + (m : Int)) ms).getD P.length []) v = some (v + (m : Int)) := by
   rw [g1]
   exact heldVI_rounds m hx v h0 (by omega) m 0 k [] v rfl (by omega) (by omega) (by omega)
  have h := ih k (P ++ [iotaI v m]) (v + (m : Int)) (fun y hy => hb y (by simp [hy])) (by rw [List.length_append, List.length_singleton]; omega) (by omega) (by omega) (by omega)
  rw [List.length_append, List.length_singleton, List.append_assoc] at h
  have c1 : (P.length : Int) < ((P ++ iotaI v m :: iotaII (v + (m : Int)) ms).length : Int) := by rw [List.length_append, List.length_cons]; omega
  have c2 : 0 ≤ (P.length : Int) := by omega
  rw [show iotaII v (m :: ms) = iotaI v m :: iotaII (v + (m : Int)) ms from rfl]
  simp only [laws_heldIntSS.l0]
  rw [if_pos c1, if_pos c2]
  refine (bind_of hm).trans ?_
  rw [if_neg (by omega), wrap_succ P.length (by omega)]
  simp only [sumII]
  rw [← Int.add_assoc]
  exact h
theorem heldII_tells (l : List (List Int)) (hl : l.length ≤ 300000) (hb : ∀ x ∈ l, x.length ≤ 100) (k : Nat) (hk : l.length + 200 < k) : laws_heldIntSS.f k (iotaII 1 (l.map List.length)) 1 = some (1 + sumII (l.map List.length)) := by
 have h := heldII_rounds l.length hl (l.map List.length) k [] 1 (fun x hx => by obtain ⟨y, hy, rfl⟩ := List.mem_map.1 hx; exact hb y hy) (by simp) (by omega) (by rw [List.length_map]; omega) (by rw [List.length_map]; omega)
 exact h

/-- What both return. -/
theorem both (n : Int) : ∃ (K : Nat) (r : List (List Int)) (ok : Bool), (r.length ≤ 300000 ∧ ∀ x ∈ r, x.length ≤ 100) ∧ ∀ k, K ≤ k → spec_AllQuiddities.f k n = some (r, ok) ∧ impl_AllQuiddities.f k n = some (r, ok) := by
 by_cases hn : 3 ≤ n ∧ n ≤ 8
 ·obtain ⟨r, ⟨h1, h2⟩, h⟩ := quids_both n hn
  refine ⟨1100000, r, true, ⟨h1, h2⟩, fun k hk => ?_⟩
  simp [spec_AllQuiddities.f, impl_AllQuiddities.f, spec_caFew.f, impl_isListedPolygon.f, l1In_tells, within_tells, hn, (h k hk).1, (h k hk).2]
 ·refine ⟨0, [], false, ⟨by simp, fun x hx => by cases hx⟩, fun k hk => ?_⟩
  simp [spec_AllQuiddities.f, impl_AllQuiddities.f, spec_caFew.f, impl_isListedPolygon.f, l1In_tells, within_tells, hn]

theorem FnExactAllQuiddities (n : Int) (_ : (Lit.int .i64 n).wf = true) :
  ∃ k, laws_FnExactAllQuiddities.f k n = some true := by
 obtain ⟨K1, r, ok, ⟨hrl, hrb⟩, hb⟩ := both n
 obtain ⟨M, hM⟩ : ∃ M, M = K1 + (r.length + 10000) := ⟨_, rfl⟩
 have b1 : ∀ j, spec_AllQuiddities.f (M + j) n = some (r, ok) := fun j => (hb (M + j) (by omega)).1
 have b2 : ∀ j, impl_AllQuiddities.f (M + j) n = some (r, ok) := fun j => (hb (M + j) (by omega)).2
 have er : ∀ j, laws_eqIntSS.f (M + j) r r = some true := fun j => eqII_tells r hrl hrb (M + j) (by omega)
 have mr : ∀ j, laws_markIntSS.f (M + j) r 1 = _ := fun j => markII_tells r hrl hrb (M + j) (by omega)
 have hd : ∀ j, laws_heldIntSS.f (M + j) (iotaII 1 (r.map List.length)) 1 = _ := fun j => heldII_tells r hrl hrb (M + j) (by omega)
 have hsum := sumII_ge (r.map List.length)
 have j1 : laws_FnExactAllQuiddities.j1 (M + 2) (iotaII 1 (r.map List.length)) (1 + sumII (r.map List.length)) false = some true := by
  simp only [laws_FnExactAllQuiddities.j1, hd, Option.bind_some, Bool.false_eq_true, if_false, if_true]
  rw [if_neg (by omega)]
 have j0 : laws_FnExactAllQuiddities.j0 (M + 3) n r ok r false = some true := by
  simp only [laws_FnExactAllQuiddities.j0, mr, hd, b2, er, Option.bind_some, Bool.false_eq_true, if_false, if_true]
  rw [if_neg (by omega), bne_self_eq_false]
  exact j1
 refine ⟨M + 3, ?_⟩
 simp only [laws_FnExactAllQuiddities.f, b1, b2, er, Option.bind_some, if_true]
 rw [bne_self_eq_false]
 exact j0

end Go.Proofs.Ytgblginphicacaa.PureFnExactAllQuiddities
