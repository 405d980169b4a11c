/- The program's TriangulationOfRank and the reference's return the same for every number of corners and every rank: both list all triangulations in the same order. No condition. -/
import Derived.Test.YtkipgbakoljaeaaPFnExactTriangulationOfRankx0
import Derived.Test.YtkipgbakoljaeaaPFnExactTriangulationOfRankx1
import Derived.Test.YtkipgbakoljaeaaPFnExactTriangulationOfRankx2
import Derived.Test.YtkipgbakoljaeaaPFnExactTriangulationOfRankx3
import Derived.Test.YtkipgbakoljaeaaPFnExactTriangulationOfRankx4
import Derived.Test.YtkipgbakoljaeaaPFnExactTriangulationOfRankx5
import Derived.Test.YtkipgbakoljaeaaPFnExactTriangulationOfRankx6
set_option linter.unusedSimpArgs false
set_option linter.unnecessarySimpa false
set_option linter.unusedVariables false
namespace Go.Proofs.Ytkipgbakoljaeaa.PureFnExactTriangulationOfRank
open Go.RowKit Go.Proofs.Ytkipgbakoljaeaa.PFnExactTriangulationOfRank Go.Proofs.YtkipgbakoljaeaaW.PrintWords Go.Proofs.YtkipgbakoljaeaaW.PrintLast

theorem Ev.at1 {α : Type} {g : Nat → Option α} {r : α} (h : Ev g r) : ∃ K, ∀ j, g (K + j) = some r := by
 obtain ⟨K, h⟩ := h
 exact ⟨K, fun j => h _ (by omega)⟩
theorem Ev.at2 {α β : Type} {g : Nat → Option α} {r : α} {g2 : Nat → Option β} {r2 : β} (h : Ev g r) (h2 : Ev g2 r2) : ∃ K, (∀ j, g (K + j) = some r) ∧ ∀ j, g2 (K + j) = some r2 := by
 obtain ⟨K, h⟩ := h
 obtain ⟨K2, h2⟩ := h2
 exact ⟨K + K2, fun j => h _ (by omega), fun j => h2 _ (by omega)⟩
theorem Ev.at3 {α β γ : Type} {g : Nat → Option α} {r : α} {g2 : Nat → Option β} {r2 : β} {g3 : Nat → Option γ} {r3 : γ} (h : Ev g r) (h2 : Ev g2 r2) (h3 : Ev g3 r3) :
  ∃ K, (∀ j, g (K + j) = some r) ∧ (∀ j, g2 (K + j) = some r2) ∧ ∀ j, g3 (K + j) = some r3 := by
 obtain ⟨K, h⟩ := h
 obtain ⟨K2, h2⟩ := h2
 obtain ⟨K3, h3⟩ := h3
 exact ⟨K + K2 + K3, fun j => h _ (by omega), fun j => h2 _ (by omega), fun j => h3 _ (by omega)⟩
theorem Ev.at4 {α β γ δ : Type} {g : Nat → Option α} {r : α} {g2 : Nat → Option β} {r2 : β} {g3 : Nat → Option γ} {r3 : γ} {g4 : Nat → Option δ} {r4 : δ} (h : Ev g r) (h2 : Ev g2 r2) (h3 : Ev g3 r3) (h4 : Ev g4 r4) :
  ∃ K, (∀ j, g (K + j) = some r) ∧ (∀ j, g2 (K + j) = some r2) ∧ (∀ j, g3 (K + j) = some r3) ∧ ∀ j, g4 (K + j) = some r4 := by
 obtain ⟨K, e1, e2, e3⟩ := Ev.at3 h h2 h3
 obtain ⟨K4, h4⟩ := h4
 exact ⟨K + K4, fun j => by rw [Nat.add_assoc]; exact e1 _, fun j => by rw [Nat.add_assoc]; exact e2 _, fun j => by rw [Nat.add_assoc]; exact e3 _, fun j => h4 _ (by omega)⟩
theorem Ev.all {α β : Type} {g : α → Nat → Option β} {r : α → β} (l : List α) (h : ∀ x, x ∈ l → Ev (g x) (r x)) : ∃ K, ∀ x, x ∈ l → ∀ k, K ≤ k → g x k = some (r x) := by
 induction l with
 | nil => exact ⟨0, fun x hx => by cases hx⟩
 | cons y l ih =>
  obtain ⟨K, hK⟩ := ih (fun x hx => h x (List.mem_cons_of_mem _ hx))
  obtain ⟨K2, hK2⟩ := h y (List.mem_cons_self ..)
  refine ⟨K + K2, fun x hx k hk => ?_⟩
  rcases List.mem_cons.1 hx with e | e
  ·subst e
   exact hK2 k (by omega)
  ·exact hK x e k (by omega)

theorem take_set_succ {α : Type} (l : List α) (i : Nat) (v : α) (h : i < l.length) : (l.set i v).take (i + 1) = l.take i ++ [v] := by
 rw [List.take_succ_eq_append_getElem (by rw [List.length_set]; exact h), List.getElem_set_self, List.take_set_of_le (Nat.le_refl i)]
theorem getD_drop {α : Type} (l : List α) (d : α) (i : Nat) (h : i < l.length) : l.drop i = l.getD i d :: l.drop (i + 1) := by
 rw [List.drop_eq_getElem_cons h, List.getD_eq_getElem?_getD, List.getElem?_eq_getElem h]
 rfl
theorem wrap_succ (i : Nat) (h : i < 4611686018427387904) : wrap64 ((i : Int) + 1) = ((i + 1 : Nat) : Int) := by unfold wrap64; omega
theorem wrap_pred (i : Nat) (h0 : 0 < i) (h : i < 4611686018427387904) : wrap64 ((i : Int) - 1) = ((i - 1 : Nat) : Int) := by unfold wrap64; omega

theorem l1In_tells (a b c : Int) : spec_l1In.f a b c = some (decide (b ≤ a ∧ a ≤ c)) := by
 unfold spec_l1In.f
 by_cases h : a ≥ b
 ·rw [if_pos h]
  have : b ≤ a := h
  simp [this]
 ·rw [if_neg h]
  have : ¬ b ≤ a := h
  simp [this]

theorem within_tells (a b c : Int) : impl_within.f a b c = some (decide (b ≤ a ∧ a ≤ c)) := by
 unfold impl_within.f
 by_cases h : a ≥ b
 ·rw [if_pos h]
  have : b ≤ a := h
  simp [this]
 ·rw [if_neg h]
  have : ¬ b ≤ a := h
  simp [this]

abbrev DG := S36
abbrev rD (l : List DG) (j : Nat) : DG := rd_T36 l (j : Int)
def crossB (a b c d : Int) : Bool := decide (a < c ∧ c < b ∧ b < d) || decide (c < a ∧ a < d ∧ d < b)
def diagB (n a b : Int) : Bool := decide (0 ≤ a ∧ b ≤ n - 1 ∧ b - a ≥ 2 ∧ b - a ≤ n - 2)
def lessB (a b c d : Int) : Bool := decide (a < c ∨ (a = c ∧ b < d))
def stepD (n : Int) (l : List DG) (j : Nat) : Bool :=
 diagB n (rD l j).f0 (rD l j).f1 && ((j == 0 || lessB (rD l (j - 1)).f0 (rD l (j - 1)).f1 (rD l j).f0 (rD l j).f1) && !(l.take j).any fun e => crossB (rD l j).f0 (rD l j).f1 e.f0 e.f1)
theorem stepD_def (n : Int) (l : List DG) (j : Nat) : stepD n l j = (diagB n (rD l j).f0 (rD l j).f1 && ((j == 0 || lessB (rD l (j - 1)).f0 (rD l (j - 1)).f1 (rD l j).f0 (rD l j).f1) && !(l.take j).any fun e => crossB (rD l j).f0 (rD l j).f1 e.f0 e.f1)) := rfl
def goodD (n : Int) (l : List DG) : Bool := (List.range' 0 l.length).all (stepD n l)

theorem rD_drop (l : List DG) (i : Nat) (h : i < l.length) : l.drop i = rD l i :: l.drop (i + 1) := by
 rw [getD_drop l z36 i h]
 unfold rD rd_T36
 rw [Int.toNat_natCast]
theorem any_take_step (p : DG → Bool) (l : List DG) (i : Nat) (h : i < l.length) : (l.drop i).any p = (p (rD l i) || (l.drop (i + 1)).any p) := by
 rw [rD_drop l i h, List.any_cons]

theorem isDiagonal_tells (n a b : Int) (h : 3 ≤ n ∧ n ≤ 12) : impl_isDiagonal.f n a b = some (diagB n a b) := by
 unfold impl_isDiagonal.f diagB
 rw [within_tells, within_tells]
 have w : wrap64 (n - 1) = n - 1 := by unfold wrap64; omega
 simp only [Option.bind_some, w, decide_eq_true_eq]
 by_cases h0 : 0 ≤ a ∧ a ≤ n - 1
 ·by_cases h1 : 0 ≤ b ∧ b ≤ n - 1
  ·have w3 : wrap64 (b - a) = b - a := by unfold wrap64; omega
   rw [if_pos h0, if_pos h1, w3]
   repeat' split
   all_goals congr 1; rw [Bool.eq_iff_iff]; simp only [decide_eq_true_eq, Bool.false_eq_true, false_iff, Bool.not_eq_true', beq_eq_false_iff_ne, ne_eq, Bool.not_false, true_iff]; omega
  ·rw [if_pos h0, if_neg h1]
   congr 1; rw [Bool.eq_iff_iff]; simp only [decide_eq_true_eq, Bool.false_eq_true, false_iff]; omega
 ·rw [if_neg h0]
  congr 1; rw [Bool.eq_iff_iff]; simp only [decide_eq_true_eq, Bool.false_eq_true, false_iff]; omega

def A1 (n : Int) (a : Nat) (b e : Nat) : List DG := ((List.range' b e).filter fun (b : Nat) => diagB n a b).map fun (b : Nat) => ⟨(a : Int), (b : Int)⟩
def A0 (n : Int) (N : Nat) (a e : Nat) : List DG := (List.range' a e).flatMap fun (a : Nat) => A1 n a (a + 1) (N - (a + 1))
theorem A1_len (n : Int) (a b e : Nat) : (A1 n a b e).length ≤ e := by
 unfold A1
 rw [List.length_map]
 exact Nat.le_trans (List.length_filter_le ..) (by rw [List.length_range']; exact Nat.le_refl _)
theorem all_l1 (n : Int) (N : Nat) (hN : (N : Int) = n) (hn : 3 ≤ n ∧ n ≤ 12) (a : Nat) (r : Option (List DG)) (e : Nat) :
  ∀ (b : Nat) (acc : List DG) (K : Nat), b + e = N → acc.length + e ≤ 4000 → (∀ q, K ≤ q → impl_allDiagonals.l0 q n (acc ++ A1 n a b e) n (wrap64 ((a : Int) + 1)) = r) →
  ∀ q, K + e < q → impl_allDiagonals.l1 q n acc (a : Int) (b : Int) n (a : Int) = r := by
 induction e with
 | zero =>
  intro b acc K he hacc h q hq
  obtain ⟨q, rfl⟩ : ∃ z, q = z + 1 := ⟨q - 1, by omega⟩
  simp only [impl_allDiagonals.l1]
  rw [if_neg (by omega)]
  have := h q (by omega)
  simpa [A1] using this
 | succ e ih =>
  intro b acc K he hacc h q hq
  obtain ⟨q, rfl⟩ : ∃ z, q = z + 1 := ⟨q - 1, by omega⟩
  have hlt : acc.length < 8796093022208 := by omega
  have hA : A1 n a b (e + 1) = (if diagB n a b = true then [(⟨(a : Int), (b : Int)⟩ : DG)] else []) ++ A1 n a (b + 1) e := by
   unfold A1
   rw [List.range'_succ, List.filter_cons]
   split <;> rfl
  simp only [impl_allDiagonals.l1]
  rw [if_pos (by omega), isDiagonal_tells n _ _ hn, Option.bind_some, wrap_succ b (by omega)]
  cases hd : diagB n a b with
  | false =>
   rw [if_neg (by simp)]
   refine ih (b + 1) acc K (by omega) (by omega) ?_ q (by omega)
   intro q' hq'
   have := h q' hq'
   rw [hA, hd, if_neg (by simp), List.nil_append] at this
   exact this
  | true =>
   rw [if_pos rfl, if_pos hlt]
   refine ih (b + 1) _ K (by omega) (by rw [List.length_append, List.length_singleton]; omega) ?_ q (by omega)
   intro q' hq'
   have := h q' hq'
   rw [hA, hd] at this
   simpa using this
theorem all_l0 (n : Int) (N : Nat) (hN : (N : Int) = n) (hn : 3 ≤ n ∧ n ≤ 12) (e : Nat) :
  ∀ (a : Nat) (acc : List DG), a + e = N → acc.length + 12 * e ≤ 3000 → ∀ q, 20 * e < q → impl_allDiagonals.l0 q n acc n (a : Int) = some (acc ++ A0 n N a e) := by
 induction e with
 | zero =>
  intro a acc he hacc q hq
  obtain ⟨q, rfl⟩ : ∃ z, q = z + 1 := ⟨q - 1, by omega⟩
  simp only [impl_allDiagonals.l0]
  rw [if_neg (by omega)]
  have e0 : A0 n N a 0 = [] := rfl
  rw [e0, List.append_nil]
 | succ e ih =>
  intro a acc he hacc q hq
  obtain ⟨q, rfl⟩ : ∃ z, q = z + 1 := ⟨q - 1, by omega⟩
  have hA : A0 n N a (e + 1) = A1 n a (a + 1) (N - (a + 1)) ++ A0 n N (a + 1) e := by
   unfold A0
   rw [List.range'_succ, List.flatMap_cons]
  have hlen := A1_len n a (a + 1) (N - (a + 1))
  rw [hA, ← List.append_assoc]
  simp only [impl_allDiagonals.l0]
  rw [if_pos (by omega), wrap_succ a (by omega)]
  refine all_l1 n N hN hn a _ (N - (a + 1)) (a + 1) acc (20 * e + 1) (by omega) (by omega) ?_ q (by omega)
  intro q' hq'
  rw [wrap_succ a (by omega)]
  exact ih (a + 1) _ (by omega) (by rw [List.length_append]; omega) q' (by omega)
theorem allDiagonals_tells (n : Int) (hn : 3 ≤ n ∧ n ≤ 12) (k : Nat) (hk : 300 < k) : impl_allDiagonals.f k n = some (A0 n n.toNat 0 n.toNat) := by
 have h := all_l0 n n.toNat (by omega) hn n.toNat 0 [] (by omega) (by simp; omega) k (by omega)
 rw [show ((0 : Nat) : Int) = 0 from rfl, List.nil_append] at h
 exact h

theorem lookL_mem (m : Int) : ∀ (r b : List DG), ∀ x ∈ lookL m r b, (x.length : Int) = m
 | [], _ => fun x hx => by cases hx
 | d :: r, b => fun x hx => by
  rw [lookL_cons] at hx
  rcases List.mem_append.1 hx with h | h
  ·split at h
   ·cases h
   ·unfold lookT at h
    split at h
    ·rw [List.mem_singleton.1 h]
     assumption
    ·exact lookL_mem m r _ x h
  ·exact lookL_mem m r b x h
theorem tris_len (n : Int) : ∀ x ∈ trisOf n, (x.length : Int) = n - 3 := by
 intro x hx
 unfold trisOf lookT at hx
 split at hx
 ·rename_i h
  rw [List.mem_singleton.1 hx]
  exact h
 ·exact lookL_mem _ _ _ x hx
theorem poAll_tells (n : Int) (hn : 3 ≤ n ∧ n ≤ 8) : spec_poAll.f n = some (trisOf n) := by
 unfold spec_poAll.f
 rw [if_pos hn]
theorem A0_diags (n : Int) (hn : 3 ≤ n ∧ n ≤ 8) : A0 n n.toNat 0 n.toNat = diagsOf n := by
 have : n = 3 ∨ n = 4 ∨ n = 5 ∨ n = 6 ∨ n = 7 ∨ n = 8 := by omega
 rcases this with rfl | rfl | rfl | rfl | rfl | rfl <;> rfl
theorem allTri_tells (n : Int) (hn : 3 ≤ n ∧ n ≤ 8) (k : Nat) (hk : 300 < k) : impl_allTriangulations.f k n = some (trisOf n) := by
 unfold impl_allTriangulations.f
 rw [allDiagonals_tells n (by omega) k hk, Option.bind_some, A0_diags n hn, if_pos ⟨hn.1, hn.2, diagsOf_le n hn⟩]
 rfl
theorem tris_small (n : Int) (hn : 3 ≤ n ∧ n ≤ 8) : (trisOf n).length ≤ 1048576 := trisOf_le n hn

theorem cat8 (n : Int) (hn : 3 ≤ n ∧ n ≤ 8) : ∃ c : Nat, (trisOf n).length = c ∧ 1 ≤ c ∧ c ≤ 132 ∧ Ev (fun k => spec_caCount.f k n) (c : Int) ∧ Ev (fun k => impl_catalan.f k n) (c : Int) := by
 have : n = 3 ∨ n = 4 ∨ n = 5 ∨ n = 6 ∨ n = 7 ∨ n = 8 := by omega
 rcases this with rfl | rfl | rfl | rfl | rfl | rfl
 ·exact ⟨1, by kernel_rfl, by omega, by omega, Ev.of (fun _ => spec_caCount.mono _ _) (k := 60) (by kernel_rfl), Ev.of (fun _ => impl_catalan.mono _ _) (k := 60) (by kernel_rfl)⟩
 ·exact ⟨2, by kernel_rfl, by omega, by omega, Ev.of (fun _ => spec_caCount.mono _ _) (k := 60) (by kernel_rfl), Ev.of (fun _ => impl_catalan.mono _ _) (k := 60) (by kernel_rfl)⟩
 ·exact ⟨5, by kernel_rfl, by omega, by omega, Ev.of (fun _ => spec_caCount.mono _ _) (k := 60) (by kernel_rfl), Ev.of (fun _ => impl_catalan.mono _ _) (k := 60) (by kernel_rfl)⟩
 ·exact ⟨14, by kernel_rfl, by omega, by omega, Ev.of (fun _ => spec_caCount.mono _ _) (k := 60) (by kernel_rfl), Ev.of (fun _ => impl_catalan.mono _ _) (k := 60) (by kernel_rfl)⟩
 ·exact ⟨42, by kernel_rfl, by omega, by omega, Ev.of (fun _ => spec_caCount.mono _ _) (k := 60) (by kernel_rfl), Ev.of (fun _ => impl_catalan.mono _ _) (k := 60) (by kernel_rfl)⟩
 ·exact ⟨132, by kernel_rfl, by omega, by omega, Ev.of (fun _ => spec_caCount.mono _ _) (k := 60) (by kernel_rfl), Ev.of (fun _ => impl_catalan.mono _ _) (k := 60) (by kernel_rfl)⟩

def iota36 : Int → Nat → List S36
 | _, 0 => []
 | v, m + 1 => ⟨v, v + 1⟩ :: iota36 (v + 2) m
theorem iota36_len : ∀ (m : Nat) (v : Int), (iota36 v m).length = m
 | 0, _ => rfl
 | m + 1, v => by rw [iota36, List.length_cons, iota36_len m]
theorem mark36_rounds (l : List S36) (hl : l.length ≤ 1048576) (e : Nat) : ∀ (i k : Nat) (P R : List S36) (v0 v : Int), P.length = i → R.length = e → i + e = l.length → 0 ≤ v0 → v0 ≤ 100000000 → v = v0 + 2 * (i : Int) → e < k →
  laws_markDiagonalS.l0 k (P ++ R) v (i : Int) = some (v0 + 2 * (l.length : Int), P ++ iota36 v e) := by
 induction e with
 | zero =>
  intro i k P R v0 v hP hR hi h00 h01 hv hk
  obtain ⟨k, rfl⟩ : ∃ q, k = q + 1 := ⟨k - 1, by omega⟩
  have : R = [] := List.length_eq_zero_iff.1 hR
  subst this
  simp only [laws_markDiagonalS.l0, List.append_nil, iota36]
  rw [if_neg (by omega), hv, show i = l.length by omega]
 | succ e ih =>
  intro i k P R v0 v hP hR hi h00 h01 hv hk
  obtain ⟨k, rfl⟩ : ∃ q, k = q + 1 := ⟨k - 1, by omega⟩
  cases R with
  | nil => simp at hR
  | cons x R =>
   rw [List.length_cons] at hR
   have w1 : wrap64 (v + 1) = v + 1 := by unfold wrap64; omega
   have w2 : wrap64 (v + 1 + 1) = v + 2 := by unfold wrap64; omega
   have s1 : ∀ y z : S36, (P ++ y :: R).set i z = P ++ z :: R := by
    intro y z
    rw [List.set_append_right _ _ (by omega), hP, Nat.sub_self]
    rfl
   have r1 : ∀ y : S36, rd_T36 (P ++ y :: R) (i : Int) = y := by
    intro y
    unfold rd_T36
    rw [Int.toNat_natCast, List.getD_eq_getElem?_getD, ← hP]
    simp
   simp only [laws_markDiagonalS.l0, Int.toNat_natCast, Option.bind_some, s1, r1, w1, w2]
   rw [if_pos (by rw [List.length_append, List.length_cons]; omega), if_pos (by omega), wrap_succ i (by omega)]
   have h := ih (i + 1) k (P ++ [⟨v, v + 1⟩]) R v0 (v + 2) (by rw [List.length_append, List.length_singleton]; omega) (by omega) (by omega) h00 h01 (by omega) (by omega)
   rw [iota36]
   simpa using h
theorem mark36_any (l : List S36) (hl : l.length ≤ 1048576) (v : Int) (h0 : 0 ≤ v) (h1 : v ≤ 100000000) (k : Nat) (hk : l.length < k) : laws_markDiagonalS.f k l v = some (v + 2 * (l.length : Int), iota36 v l.length) := by
 have h := mark36_rounds l hl l.length 0 k [] l v v rfl rfl (by omega) h0 h1 (by omega) hk
 unfold laws_markDiagonalS.f
 simpa using h
theorem mark36_tells (l : List S36) (hl : l.length ≤ 1048576) (k : Nat) (hk : l.length < k) : laws_markDiagonalS.f k l 1 = some (1 + 2 * (l.length : Int), iota36 1 l.length) :=
 mark36_any l hl 1 (by omega) (by omega) k hk

theorem held36_rounds (L : Nat) (hl : L ≤ 1048576) (e : Nat) : ∀ (i k : Nat) (P : List S36) (v : Int), P.length = i → i + e = L → v = 1 + 2 * (i : Int) → e < k →
  laws_heldDiagonalS.l0 k (P ++ iota36 v e) v (i : Int) = some (1 + 2 * (L : Int)) := by
 induction e with
 | zero =>
  intro i k P v hP hi hv hk
  obtain ⟨k, rfl⟩ : ∃ q, k = q + 1 := ⟨k - 1, by omega⟩
  simp only [laws_heldDiagonalS.l0, iota36, List.append_nil]
  rw [if_neg (by omega), hv, show i = L by omega]
 | succ e ih =>
  intro i k P v hP hi hv hk
  obtain ⟨k, rfl⟩ : ∃ q, k = q + 1 := ⟨k - 1, by omega⟩
  have w1 : wrap64 (v + 1) = v + 1 := by unfold wrap64; omega
  have w2 : wrap64 (v + 1 + 1) = v + 2 := by unfold wrap64; omega
  have r1 : rd_T36 (P ++ iota36 v (e + 1)) (i : Int) = ⟨v, v + 1⟩ := by
   unfold rd_T36
   rw [Int.toNat_natCast, List.getD_eq_getElem?_getD, ← hP, iota36]
   simp
  simp only [laws_heldDiagonalS.l0, r1, w1, w2, if_true]
  rw [if_pos (by rw [List.length_append, iota36_len]; omega), if_pos (by omega), wrap_succ i (by omega)]
  have h := ih (i + 1) k (P ++ [⟨v, v + 1⟩]) (v + 2) (by rw [List.length_append, List.length_singleton]; omega) (by omega) (by omega) (by omega)
  rw [iota36]
  simpa using h
theorem held36_tells (L : Nat) (hl : L ≤ 1048576) (k : Nat) (hk : L < k) : laws_heldDiagonalS.f k (iota36 1 L) 1 = some (1 + 2 * (L : Int)) := by
 have h := held36_rounds L hl L 0 k [] 1 rfl (by omega) (by omega) hk
 unfold laws_heldDiagonalS.f
 simpa using h

theorem eqO36_rounds (l : List S36) (hl : l.length ≤ 4611686018427387904) (d : Nat) : ∀ (i k : Nat), i + d = l.length → d < k → laws_eqDiagonalS.l0 k l l (i : Int) = some true := by
 induction d with
 | zero =>
  intro i k hi hk
  obtain ⟨k, rfl⟩ : ∃ m, k = m + 1 := ⟨k - 1, by omega⟩
  simp only [laws_eqDiagonalS.l0]
  rw [if_neg (by omega)]
 | succ d ih =>
  intro i k hi hk
  obtain ⟨k, rfl⟩ : ∃ m, k = m + 1 := ⟨k - 1, by omega⟩
  simp only [laws_eqDiagonalS.l0, laws_eqDiagonal.f, if_true, Option.bind_some]
  rw [if_pos (by omega), if_pos (by omega), if_pos (by omega), wrap_succ i (by omega)]
  exact ih (i + 1) k (by omega) (by omega)
theorem eqO36_tells (l : List S36) (hl : l.length ≤ 1048576) (k : Nat) (hk : l.length < k) : laws_eqDiagonalS.f k l l = some true := by
 unfold laws_eqDiagonalS.f
 rw [if_pos rfl]
 exact eqO36_rounds l (by omega) l.length 0 k (by omega) (by omega)

/-- What both return. -/
theorem both (n a : Int) : ∃ K r ok, r.length ≤ 1048576 ∧ ∀ k, K ≤ k → spec_TriangulationOfRank.f k n a = some (r, ok) ∧ impl_TriangulationOfRank.f k n a = some (r, ok) := by
 by_cases hn : 3 ≤ n ∧ n ≤ 8
 ·obtain ⟨c, hc, hc1, hc2, e1, e2⟩ := cat8 n hn
  obtain ⟨K, e3, e4⟩ := Ev.at2 e1 e2
  have E1 : ∀ k, K ≤ k → spec_caCount.f k n = some (c : Int) := fun k hk => by rw [show k = K + (k - K) by omega]; exact e3 _
  have E2 : ∀ k, K ≤ k → impl_catalan.f k n = some (c : Int) := fun k hk => by rw [show k = K + (k - K) by omega]; exact e4 _
  have w1 : wrap64 ((c : Int) - 1) = (c : Int) - 1 := by unfold wrap64; omega
  by_cases ha : 0 ≤ a ∧ a ≤ (c : Int) - 1
  ·have hmem : rd_L2 (trisOf n) a ∈ trisOf n := by
    unfold rd_L2
    rw [List.getD_eq_getElem?_getD, List.getElem?_eq_getElem (show a.toNat < (trisOf n).length by omega)]
    exact List.getElem_mem _
   have hlen := tris_len n _ hmem
   refine ⟨K + 301, rd_L2 (trisOf n) a, true, by omega, fun k hk => ?_⟩
   have hi : 0 ≤ a := ha.1
   have hj : a < ((trisOf n).length : Int) := by omega
   simp only [spec_TriangulationOfRank.f, impl_TriangulationOfRank.f, spec_caFew.f, impl_isListedPolygon.f, l1In_tells, within_tells, decide_eq_true hn, Option.bind_some, if_true, E1 k (by omega), E2 k (by omega), w1, decide_eq_true ha, poAll_tells n hn, allTri_tells n hn k (by omega), if_pos hi, if_pos hj]
   exact ⟨trivial, trivial⟩
  ·refine ⟨K + 301, [], false, by simp, fun k hk => ?_⟩
   simp [spec_TriangulationOfRank.f, impl_TriangulationOfRank.f, spec_caFew.f, impl_isListedPolygon.f, l1In_tells, within_tells, hn, E1 k (by omega), E2 k (by omega), w1, ha]
 ·refine ⟨0, [], false, by simp, fun k hk => ?_⟩
  simp [spec_TriangulationOfRank.f, impl_TriangulationOfRank.f, spec_caFew.f, impl_isListedPolygon.f, l1In_tells, within_tells, hn]

theorem FnExactTriangulationOfRank (n : Int) (a : Int) (_ : (Lit.int .i64 n).wf = true) (_ : (Lit.int .i64 a).wf = true) :
  ∃ k, laws_FnExactTriangulationOfRank.f k n a = some true := by
 obtain ⟨K1, r, ok, hrl, hb⟩ := both n a
 obtain ⟨M, hM⟩ : ∃ M, M = K1 + (r.length + 10000) := ⟨_, rfl⟩
 have b1 : ∀ j, spec_TriangulationOfRank.f (M + j) n a = some (r, ok) := fun j => (hb (M + j) (by omega)).1
 have b2 : ∀ j, impl_TriangulationOfRank.f (M + j) n a = some (r, ok) := fun j => (hb (M + j) (by omega)).2
 have er : ∀ j, laws_eqDiagonalS.f (M + j) r r = some true := fun j => eqO36_tells r (by omega) (M + j) (by omega)
 have mr : ∀ j, laws_markDiagonalS.f (M + j) r 1 = _ := fun j => mark36_tells r hrl (M + j) (by omega)
 have hd : ∀ j, laws_heldDiagonalS.f (M + j) (iota36 1 r.length) 1 = _ := fun j => held36_tells r.length hrl (M + j) (by omega)
 have j1 : laws_FnExactTriangulationOfRank.j1 (M + 2) (iota36 1 r.length) (1 + 2 * (r.length : Int)) false = some true := by
  simp only [laws_FnExactTriangulationOfRank.j1, hd, Option.bind_some, Bool.false_eq_true, if_false, if_true]
  rw [if_neg (by omega)]
 have j0 : laws_FnExactTriangulationOfRank.j0 (M + 3) n a r ok r false = some true := by
  simp only [laws_FnExactTriangulationOfRank.j0, mr, hd, b2, er, Option.bind_some, Bool.false_eq_true, if_false, if_true]
  rw [if_neg (by omega), bne_self_eq_false]
  exact j1
 refine ⟨M + 3, ?_⟩
 simp only [laws_FnExactTriangulationOfRank.f, b1, b2, er, Option.bind_some, if_true]
 rw [bne_self_eq_false]
 exact j0

end Go.Proofs.Ytkipgbakoljaeaa.PureFnExactTriangulationOfRank
