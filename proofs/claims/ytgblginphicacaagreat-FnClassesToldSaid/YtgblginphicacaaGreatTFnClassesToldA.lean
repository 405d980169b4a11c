/- Plain texts of this law: what its functions compute. -/
import Derived.Test.YtgblginphicacaaGreatPFnClassesToldx0
import Derived.Test.YtgblginphicacaaGreatPFnClassesToldx1
import Derived.Test.YtgblginphicacaaGreatPFnClassesToldx10
import Derived.Test.YtgblginphicacaaGreatPFnClassesToldx11
import Derived.Test.YtgblginphicacaaGreatPFnClassesToldx12
import Derived.Test.YtgblginphicacaaGreatPFnClassesToldx13
import Derived.Test.YtgblginphicacaaGreatPFnClassesToldx14
import Derived.Test.YtgblginphicacaaGreatPFnClassesToldx15
import Derived.Test.YtgblginphicacaaGreatPFnClassesToldx16
import Derived.Test.YtgblginphicacaaGreatPFnClassesToldx17
import Derived.Test.YtgblginphicacaaGreatPFnClassesToldx18
import Derived.Test.YtgblginphicacaaGreatPFnClassesToldx19
import Derived.Test.YtgblginphicacaaGreatPFnClassesToldx2
import Derived.Test.YtgblginphicacaaGreatPFnClassesToldx20
import Derived.Test.YtgblginphicacaaGreatPFnClassesToldx21
import Derived.Test.YtgblginphicacaaGreatPFnClassesToldx22
import Derived.Test.YtgblginphicacaaGreatPFnClassesToldx23
import Derived.Test.YtgblginphicacaaGreatPFnClassesToldx24
import Derived.Test.YtgblginphicacaaGreatPFnClassesToldx25
import Derived.Test.YtgblginphicacaaGreatPFnClassesToldx26
import Derived.Test.YtgblginphicacaaGreatPFnClassesToldx3
import Derived.Test.YtgblginphicacaaGreatPFnClassesToldx4
import Derived.Test.YtgblginphicacaaGreatPFnClassesToldx5
import Derived.Test.YtgblginphicacaaGreatPFnClassesToldx6
import Derived.Test.YtgblginphicacaaGreatPFnClassesToldx7
import Derived.Test.YtgblginphicacaaGreatPFnClassesToldx8
import Derived.Test.YtgblginphicacaaGreatPFnClassesToldx9
set_option linter.unusedSimpArgs false
set_option linter.unnecessarySimpa false
set_option linter.unusedVariables false
namespace Go.Proofs.YtgblginphicacaaGreat.PureFnClassesTold
open Go.RowKit Go.Proofs.YtgblginphicacaaGreat.PFnClassesTold Go.Proofs.YtgblginphicacaaGreatW.PrintWords Go.Proofs.YtgblginphicacaaGreatW.PrintLast

theorem Ev.at1 {α : Type} {g : Nat → Option α} {r : α} (h : Ev g r) : ∃ K, ∀ j, g (K + j) = some r := by
 obtain ⟨K, h⟩ := h;exact ⟨K, fun j => h _ (by omega)⟩
theorem Ev.at2 {α β : Type} {g : Nat → Option α} {r : α} {g2 : Nat → Option β} {r2 : β} (h : Ev g r) (h2 : Ev g2 r2) : ∃ K, (∀ j, g (K + j) = some r) ∧ ∀ j, g2 (K + j) = some r2 := by
 obtain ⟨K, h⟩ := h;obtain ⟨K2, h2⟩ := h2;exact ⟨K + K2, fun j => h _ (by omega), fun j => h2 _ (by omega)⟩
theorem Ev.at3 {α β γ : Type} {g : Nat → Option α} {r : α} {g2 : Nat → Option β} {r2 : β} {g3 : Nat → Option γ} {r3 : γ} (h : Ev g r) (h2 : Ev g2 r2) (h3 : Ev g3 r3) :
  ∃ K, (∀ j, g (K + j) = some r) ∧ (∀ j, g2 (K + j) = some r2) ∧ ∀ j, g3 (K + j) = some r3 := by
 obtain ⟨K, h⟩ := h;obtain ⟨K2, h2⟩ := h2;obtain ⟨K3, h3⟩ := h3;exact ⟨K + K2 + K3, fun j => h _ (by omega), fun j => h2 _ (by omega), fun j => h3 _ (by omega)⟩
theorem Ev.at4 {α β γ δ : Type} {g : Nat → Option α} {r : α} {g2 : Nat → Option β} {r2 : β} {g3 : Nat → Option γ} {r3 : γ} {g4 : Nat → Option δ} {r4 : δ} (h : Ev g r) (h2 : Ev g2 r2) (h3 : Ev g3 r3) (h4 : Ev g4 r4) :
  ∃ K, (∀ j, g (K + j) = some r) ∧ (∀ j, g2 (K + j) = some r2) ∧ (∀ j, g3 (K + j) = some r3) ∧ ∀ j, g4 (K + j) = some r4 := by
 obtain ⟨K, e1, e2, e3⟩ := Ev.at3 h h2 h3;obtain ⟨K4, h4⟩ := h4;exact ⟨K + K4, fun j => by rw [Nat.add_assoc]; exact e1 _, fun j => by rw [Nat.add_assoc]; exact e2 _, fun j => by rw [Nat.add_assoc]; exact e3 _, fun j => h4 _ (by omega)⟩
theorem Ev.all {α β : Type} {g : α → Nat → Option β} {r : α → β} (l : List α) (h : ∀ x, x ∈ l → Ev (g x) (r x)) : ∃ K, ∀ x, x ∈ l → ∀ k, K ≤ k → g x k = some (r x) := by
 induction l with
 | nil => exact ⟨0, fun x hx => by cases hx⟩
 | cons y l ih =>
  obtain ⟨K, hK⟩ := ih (fun x hx => h x (List.mem_cons_of_mem _ hx));obtain ⟨K2, hK2⟩ := h y (List.mem_cons_self ..);refine ⟨K + K2, fun x hx k hk => ?_⟩;rcases List.mem_cons.1 hx with e | e
  ·subst e;exact hK2 k (by omega)
  ·exact hK x e k (by omega)

theorem take_set_succ {α : Type} (l : List α) (i : Nat) (v : α) (h : i < l.length) : (l.set i v).take (i + 1) = l.take i ++ [v] := by
 rw [List.take_succ_eq_append_getElem (by rw [List.length_set]; exact h), List.getElem_set_self, List.take_set_of_le (Nat.le_refl i)]
theorem getD_drop {α : Type} (l : List α) (d : α) (i : Nat) (h : i < l.length) : l.drop i = l.getD i d :: l.drop (i + 1) := by
 rw [List.drop_eq_getElem_cons h, List.getD_eq_getElem?_getD, List.getElem?_eq_getElem h];rfl
theorem zK (i : Nat) (h : i < 4611686018427387904) : wrap64 ((i : Int) + 1) = ((i + 1 : Nat) : Int) := by unfold wrap64; omega
theorem wrap_pred (i : Nat) (h0 : 0 < i) (h : i < 4611686018427387904) : wrap64 ((i : Int) - 1) = ((i - 1 : Nat) : Int) := by unfold wrap64; omega

theorem vS (a b c : Int) : yH.f a b c = some (decide (b ≤ a ∧ a ≤ c)) := by
 unfold yH.f;by_cases h : a ≥ b
 ·rw [if_pos h];have : b ≤ a := h;simp [this]
 ·rw [if_neg h];have : ¬ b ≤ a := h;simp [this]

theorem yF (a b c : Int) : zX.f a b c = some (decide (b ≤ a ∧ a ≤ c)) := by
 unfold zX.f;by_cases h : a ≥ b
 ·rw [if_pos h];have : b ≤ a := h;simp [this]
 ·rw [if_neg h];have : ¬ b ≤ a := h;simp [this]

abbrev DG := S62
abbrev rD (l : List DG) (j : Nat) : DG := qb l (j : Int)
def uS (a b c d : Int) : Bool := decide (a < c ∧ c < b ∧ b < d) || decide (c < a ∧ a < d ∧ d < b)
def QL (n a b : Int) : Bool := decide (0 ≤ a ∧ b ≤ n - 1 ∧ b - a ≥ 2 ∧ b - a ≤ n - 2)
def kF (a b c d : Int) : Bool := decide (a < c ∨ (a = c ∧ b < d))
def stepD (n : Int) (l : List DG) (j : Nat) : Bool :=
 QL n (rD l j).f0 (rD l j).f1 && ((j == 0 || kF (rD l (j - 1)).f0 (rD l (j - 1)).f1 (rD l j).f0 (rD l j).f1) && !(l.take j).any fun e => uS (rD l j).f0 (rD l j).f1 e.f0 e.f1)
theorem Qf (n : Int) (l : List DG) (j : Nat) : stepD n l j = (QL n (rD l j).f0 (rD l j).f1 && ((j == 0 || kF (rD l (j - 1)).f0 (rD l (j - 1)).f1 (rD l j).f0 (rD l j).f1) && !(l.take j).any fun e => uS (rD l j).f0 (rD l j).f1 e.f0 e.f1)) := rfl
def goodD (n : Int) (l : List DG) : Bool := (List.range' 0 l.length).all (stepD n l)

theorem uU (l : List DG) (i : Nat) (h : i < l.length) : l.drop i = rD l i :: l.drop (i + 1) := by
 rw [getD_drop l z62 i h];unfold rD qb;rw [Int.toNat_natCast]
theorem Jb (p : DG → Bool) (l : List DG) (i : Nat) (h : i < l.length) : (l.drop i).any p = (p (rD l i) || (l.drop (i + 1)).any p) := by
 rw [uU l i h, List.any_cons]

theorem poCross_tells (a b c d : Int) : xB.f a b c d = some (uS a b c d) := by
 unfold xB.f uS;(repeat' split);all_goals congr 1; rw [Bool.eq_iff_iff]; simp only [Bool.or_eq_true, decide_eq_true_eq, Bool.false_eq_true, false_iff, true_iff]; omega
theorem QZ (a b c d : Int) : xG.f a b c d = some (kF a b c d) := by
 unfold xG.f kF;(repeat' split);all_goals congr 1; rw [Bool.eq_iff_iff]; simp only [decide_eq_true_eq, Bool.false_eq_true, false_iff, true_iff]; omega
theorem Jl (n : Int) : xq.f n = some (decide (3 ≤ n ∧ n ≤ 12)) := by
 unfold xq.f;rw [vS];rfl
theorem poDiagonal_tells (n a b : Int) (h : 3 ≤ n ∧ n ≤ 12) : yz.f n a b = some (QL n a b) := by
 unfold yz.f QL;rw [Jl, vS, vS, decide_eq_true h];have w : wrap64 (n - 1) = n - 1 := (by unfold wrap64; omega);have w2 : wrap64 (n - 2) = n - 2 := (by unfold wrap64; omega);simp only [Option.bind_some, if_true, w, w2, decide_eq_true_eq];by_cases h0 : 0 ≤ a ∧ a ≤ n - 1
 ·by_cases h1 : 0 ≤ b ∧ b ≤ n - 1
  ·have w3 : wrap64 (b - a) = b - a := (by unfold wrap64; omega);rw [if_pos h0, if_pos h1, w3];split;all_goals congr 1; rw [Bool.eq_iff_iff]; simp only [decide_eq_true_eq, Bool.false_eq_true, false_iff]; omega
  ·rw [if_pos h0, if_neg h1];congr 1; rw [Bool.eq_iff_iff]; simp only [decide_eq_true_eq, Bool.false_eq_true, false_iff]; omega
 ·rw [if_neg h0];congr 1; rw [Bool.eq_iff_iff]; simp only [decide_eq_true_eq, Bool.false_eq_true, false_iff]; omega

theorem QJ (n a b : Int) (h : 3 ≤ n ∧ n ≤ 12) : jM.f n a b = some (QL n a b) := by
 unfold jM.f QL;rw [yF, yF];have w : wrap64 (n - 1) = n - 1 := (by unfold wrap64; omega);simp only [Option.bind_some, w, decide_eq_true_eq];by_cases h0 : 0 ≤ a ∧ a ≤ n - 1
 ·by_cases h1 : 0 ≤ b ∧ b ≤ n - 1
  ·have w3 : wrap64 (b - a) = b - a := (by unfold wrap64; omega);rw [if_pos h0, if_pos h1, w3];(repeat' split);all_goals congr 1; rw [Bool.eq_iff_iff]; simp only [decide_eq_true_eq, Bool.false_eq_true, false_iff, Bool.not_eq_true', beq_eq_false_iff_ne, ne_eq, Bool.not_false, true_iff]; omega
  ·rw [if_pos h0, if_neg h1];congr 1; rw [Bool.eq_iff_iff]; simp only [decide_eq_true_eq, Bool.false_eq_true, false_iff]; omega
 ·rw [if_neg h0];congr 1; rw [Bool.eq_iff_iff]; simp only [decide_eq_true_eq, Bool.false_eq_true, false_iff]; omega
def Zh (a c : Int) : Int := if a < c then -1 else if a > c then 1 else 0
def cmpD (a b c d : Int) : Int := if a = c then Zh b d else Zh a c
theorem kJ (a c : Int) : cmp_Compare_int.f a c = some (Zh a c) := by
 unfold cmp_Compare_int.f cmp_isNaN_int.f Zh;have h0 : (a != a) = false := (by simp);have h1 : (c != c) = false := (by simp);rw [h0, h1];simp only [Option.bind_some, Bool.false_eq_true, if_false];(repeat' split);all_goals rfl
theorem uC (a b c d : Int) (k : Nat) (hk : 3 ≤ k) : qM.f k a b c d = some (cmpD a b c d) := by
 obtain ⟨k, rfl⟩ : ∃ q, k = q + 3 := ⟨k - 3, by omega⟩;unfold qM.f jT.f;rw [kJ, kJ];simp only [Option.bind_some, List.length_cons, List.length_nil];have r0 : rd [Zh a c, Zh b d] 0 = Zh a c := rfl;have r1 : rd [Zh a c, Zh b d] 1 = Zh b d := rfl;have w0 : wrap64 (0 + 1) = 1 := (by unfold wrap64; omega);have w1 : wrap64 (1 + 1) = 2 := (by unfold wrap64; omega);simp only [jT.l0, w0, w1, r0, r1];unfold cmpD;by_cases e : a = c
 ·have z : Zh a c = 0 := (by unfold Zh; rw [if_neg (by omega), if_neg (by omega)]);rw [if_pos e, z];by_cases z2 : Zh b d = 0
  ·simp [z2]
  ·simp [z2]
 ·have z : ¬ Zh a c = 0 := by
   unfold Zh;split
   ·omega
   ·split <;> omega
  rw [if_neg e];simp [z]
theorem cmpD_nonneg (a b c d : Int) : cmpD a b c d ≥ 0 ↔ kF a b c d = false := by
 unfold cmpD Zh kF;rw [decide_eq_false_iff_not];(repeat' split);all_goals omega

def A1 (n : Int) (a : Nat) (b e : Nat) : List DG := ((List.range' b e).filter fun (b : Nat) => QL n a b).map fun (b : Nat) => ⟨(a : Int), (b : Int)⟩
def A0 (n : Int) (N : Nat) (a e : Nat) : List DG := (List.range' a e).flatMap fun (a : Nat) => A1 n a (a + 1) (N - (a + 1))
theorem A1_len (n : Int) (a b e : Nat) : (A1 n a b e).length ≤ e := by
 unfold A1;rw [List.length_map];exact Nat.le_trans (List.length_filter_le ..) (by rw [List.length_range']; exact Nat.le_refl _)
theorem all_l1 (n : Int) (N : Nat) (hN : (N : Int) = n) (hn : 3 ≤ n ∧ n ≤ 12) (a : Nat) (r : Option (List DG)) (e : Nat) :
  ∀ (b : Nat) (acc : List DG) (K : Nat), b + e = N → acc.length + e ≤ 4000 → (∀ q, K ≤ q → qU.l0 q n (acc ++ A1 n a b e) n (wrap64 ((a : Int) + 1)) = r) →
  ∀ q, K + e < q → qU.l1 q n acc (a : Int) (b : Int) n (a : Int) = r := by
 induction e with
 | zero =>
  intro b acc K he hacc h q hq;obtain ⟨q, rfl⟩ : ∃ z, q = z + 1 := ⟨q - 1, by omega⟩;simp only [qU.l1];rw [if_neg (by omega)];have := h q (by omega);simpa [A1] using this
 | succ e ih =>
  intro b acc K he hacc h q hq;obtain ⟨q, rfl⟩ : ∃ z, q = z + 1 := ⟨q - 1, by omega⟩;have hlt : acc.length < 8796093022208 := by omega
  have hA : A1 n a b (e + 1) = (if QL n a b = true then [(⟨(a : Int), (b : Int)⟩ : DG)] else []) ++ A1 n a (b + 1) e := by
   unfold A1;rw [List.range'_succ, List.filter_cons];split <;> rfl
  simp only [qU.l1];rw [if_pos (by omega), QJ n _ _ hn, Option.bind_some, zK b (by omega)];cases hd : QL n a b with
  | false =>
   rw [if_neg (by simp)];refine ih (b + 1) acc K (by omega) (by omega) ?_ q (by omega);intro q' hq';have := h q' hq';rw [hA, hd, if_neg (by simp), List.nil_append] at this;exact this
  | true =>
   rw [if_pos rfl, if_pos hlt];refine ih (b + 1) _ K (by omega) (by rw [List.length_append, List.length_singleton]; omega) ?_ q (by omega);intro q' hq';have := h q' hq';rw [hA, hd] at this;simpa using this
theorem all_l0 (n : Int) (N : Nat) (hN : (N : Int) = n) (hn : 3 ≤ n ∧ n ≤ 12) (e : Nat) :
  ∀ (a : Nat) (acc : List DG), a + e = N → acc.length + 12 * e ≤ 3000 → ∀ q, 20 * e < q → qU.l0 q n acc n (a : Int) = some (acc ++ A0 n N a e) := by
 induction e with
 | zero =>
  intro a acc he hacc q hq;obtain ⟨q, rfl⟩ : ∃ z, q = z + 1 := ⟨q - 1, by omega⟩;simp only [qU.l0];rw [if_neg (by omega)];have e0 : A0 n N a 0 = [] := rfl;rw [e0, List.append_nil]
 | succ e ih =>
  intro a acc he hacc q hq;obtain ⟨q, rfl⟩ : ∃ z, q = z + 1 := ⟨q - 1, by omega⟩
  have hA : A0 n N a (e + 1) = A1 n a (a + 1) (N - (a + 1)) ++ A0 n N (a + 1) e := by
   unfold A0;rw [List.range'_succ, List.flatMap_cons]
  have hlen := A1_len n a (a + 1) (N - (a + 1));rw [hA, ← List.append_assoc];simp only [qU.l0];rw [if_pos (by omega), zK a (by omega)];refine all_l1 n N hN hn a _ (N - (a + 1)) (a + 1) acc (20 * e + 1) (by omega) (by omega) ?_ q (by omega);intro q' hq';rw [zK a (by omega)];exact ih (a + 1) _ (by omega) (by rw [List.length_append]; omega) q' (by omega)
theorem Jm (n : Int) (hn : 3 ≤ n ∧ n ≤ 12) (k : Nat) (hk : 300 < k) : qU.f k n = some (A0 n n.toNat 0 n.toNat) := by
 have h := all_l0 n n.toNat (by omega) hn n.toNat 0 [] (by omega) (by simp; omega) k (by omega);rw [show ((0 : Nat) : Int) = 0 from rfl, List.nil_append] at h;exact h

theorem lookL_mem (m : Int) : ∀ (r b : List DG), ∀ x ∈ uZ m r b, (x.length : Int) = m
 | [], _ => fun x hx => by cases hx
 | d :: r, b => fun x hx => by
  rw [kH] at hx;rcases List.mem_append.1 hx with h | h
  ·split at h
   ·cases h
   ·unfold xE at h;split at h
    ·rw [List.mem_singleton.1 h]
     assumption
    ·exact lookL_mem m r _ x h
  ·exact lookL_mem m r b x h
theorem QD (n : Int) : ∀ x ∈ jZ n, (x.length : Int) = n - 3 := by
 intro x hx;unfold jZ xE at hx;split at hx
 ·rename_i h;rw [List.mem_singleton.1 hx];exact h
 ·exact lookL_mem _ _ _ x hx
theorem Qx (n : Int) (hn : 3 ≤ n ∧ n ≤ 8) : xJ.f n = some (jZ n) := by
 unfold xJ.f;rw [if_pos hn]
theorem A0_diags (n : Int) (hn : 3 ≤ n ∧ n ≤ 8) : A0 n n.toNat 0 n.toNat = xH n := by
 have : n = 3 ∨ n = 4 ∨ n = 5 ∨ n = 6 ∨ n = 7 ∨ n = 8 := (by omega);rcases this with rfl | rfl | rfl | rfl | rfl | rfl <;> rfl
theorem kv (n : Int) (hn : 3 ≤ n ∧ n ≤ 8) (k : Nat) (hk : 300 < k) : z8.f k n = some (jZ n) := by
 unfold z8.f;rw [Jm n (by omega) k hk, Option.bind_some, A0_diags n hn, if_pos ⟨hn.1, hn.2, QW n hn⟩];rfl
theorem wL (n : Int) (hn : 3 ≤ n ∧ n ≤ 8) : (jZ n).length ≤ 1048576 := trisOf_le n hn

def vE (n : Int) (l : List DG) : Bool := decide (3 ≤ n ∧ n ≤ 12) && (decide ((l.length : Int) = n - 3) && goodD n l)

theorem cnt_split {α : Type} (p q r : α → Bool) : ∀ l : List α, (∀ x ∈ l, p x = true → q x = true ∨ r x = true) → l.countP p ≤ l.countP q + l.countP r
 | [], _ => by simp
 | x :: l, h => by
  have ih := cnt_split p q r l (fun y hy => h y (List.mem_cons_of_mem _ hy));have hx := h x (List.mem_cons_self ..);simp only [List.countP_cons];cases hp : p x <;> cases hq : q x <;> cases hr : r x <;> simp_all <;> omega
theorem cnt_zero {α : Type} (p : α → Bool) (l : List α) (h : ∀ x ∈ l, p x = false) : l.countP p = 0 := by
 rw [List.countP_eq_zero];intro x hx;simp [h x hx]
theorem last_of (P : Int → Prop) : ∀ (m : Nat) (lo hi : Int), hi - lo ≤ m → lo < hi → P lo → ∃ c, lo ≤ c ∧ c < hi ∧ P c ∧ ∀ c', c < c' → c' < hi → ¬ P c'
 | 0, lo, hi, h, h2, _ => by omega
 | m + 1, lo, hi, h, h2, hP => by
  by_cases hx : ∃ c, lo < c ∧ c < hi ∧ P c
  ·obtain ⟨c, h3, h4, h5⟩ := hx;obtain ⟨e, h6, h7, h8, h9⟩ := last_of P m c hi (by omega) h4 h5;exact ⟨e, by omega, h7, h8, h9⟩
  ·exact ⟨lo, by omega, h2, hP, fun c' h3 h4 h5 => hx ⟨c', h3, h4, h5⟩⟩

def Jo (l : List DG) (a b : Int) : Bool := l.any fun d => d.f0 == a && d.f1 == b
theorem hasD_of {l : List DG} {d : DG} (h : d ∈ l) : Jo l d.f0 d.f1 = true := List.any_eq_true.2 ⟨d, h, by simp⟩
theorem hasD_mem {l : List DG} {a b : Int} (h : Jo l a b = true) : ∃ d ∈ l, d.f0 = a ∧ d.f1 = b := by
 obtain ⟨d, h1, h2⟩ := List.any_eq_true.1 h;simp only [Bool.and_eq_true, beq_iff_eq] at h2;exact ⟨d, h1, h2⟩
def under (l : List DG) (i j : Int) : Nat := l.countP fun d => decide (i ≤ d.f0 ∧ d.f1 ≤ j)
def inner (l : List DG) (i j : Int) : Nat := l.countP fun d => decide (i ≤ d.f0 ∧ d.f1 ≤ j ∧ ¬ (d.f0 = i ∧ d.f1 = j))

structure Tri (n : Int) (l : List DG) : Prop where
 n3 : 3 ≤ n ∧ n ≤ 12
 len : (l.length : Int) = n - 3
 ok : ∀ d ∈ l, 0 ≤ d.f0 ∧ d.f1 ≤ n - 1 ∧ 2 ≤ d.f1 - d.f0 ∧ d.f1 - d.f0 ≤ n - 2
 nc : ∀ d ∈ l, ∀ e ∈ l, ¬ (d.f0 < e.f0 ∧ e.f0 < d.f1 ∧ d.f1 < e.f1)
 sorted : l.Pairwise fun d e => d.f0 < e.f0 ∨ (d.f0 = e.f0 ∧ d.f1 < e.f1)

theorem cnt_one (a b : Int) : ∀ l : List DG, (l.Pairwise fun d e => d.f0 < e.f0 ∨ (d.f0 = e.f0 ∧ d.f1 < e.f1)) → l.countP (fun d => decide (d.f0 = a ∧ d.f1 = b)) ≤ if Jo l a b = true then 1 else 0
 | [], _ => by simp
 | x :: l, h => by
  obtain ⟨h1, h2⟩ := List.pairwise_cons.1 h;have ih := cnt_one a b l h2;simp only [List.countP_cons];by_cases hx : x.f0 = a ∧ x.f1 = b
  ·have hz : l.countP (fun d => decide (d.f0 = a ∧ d.f1 = b)) = 0 := by
    apply cnt_zero;intro y hy;have := h1 y hy;rw [decide_eq_false_iff_not];omega
   have hh : Jo (x :: l) a b = true := by
    rw [← hx.1, ← hx.2];exact hasD_of (List.mem_cons_self ..)
   rw [hz, if_pos hh];simp [hx]
  ·have hh : Jo (x :: l) a b = Jo l a b := by
    unfold Jo;rw [List.any_cons]
    have : (x.f0 == a && x.f1 == b) = false := by
     rw [Bool.eq_false_iff];simpa using hx
    rw [this, Bool.false_or]
   rw [hh];simp only [hx, decide_false, Bool.false_eq_true, if_false];exact ih

theorem Tri.under_inner {n : Int} {l : List DG} (T : Tri n l) (i j : Int) : under l i j ≤ inner l i j + if Jo l i j = true then 1 else 0 := by
 have h1 := cnt_split (fun d : DG => decide (i ≤ d.f0 ∧ d.f1 ≤ j)) (fun d : DG => decide (i ≤ d.f0 ∧ d.f1 ≤ j ∧ ¬ (d.f0 = i ∧ d.f1 = j))) (fun d : DG => decide (d.f0 = i ∧ d.f1 = j)) l (fun x _ h => by
  simp only [decide_eq_true_eq] at h ⊢;omega)
 have h2 := cnt_one i j l T.sorted;unfold under inner;omega

theorem Tri.half {n : Int} {l : List DG} (T : Tri n l) (a b : Int) (h1 : 1 ≤ b - a) (ih : 2 ≤ b - a → (inner l a b : Int) ≤ b - a - 2) :
  (under l a b : Int) ≤ b - a - 1 ∧ ((under l a b : Int) = b - a - 1 → b - a = 1 ∨ (Jo l a b = true ∧ 2 ≤ b - a ∧ (inner l a b : Int) = b - a - 2)) := by
 by_cases h2 : 2 ≤ b - a
 ·have h3 := ih h2;have h4 := T.under_inner a b;cases hh : Jo l a b
  ·rw [hh, if_neg (by simp)] at h4;exact ⟨by omega, fun _ => by omega⟩
  ·rw [hh, if_pos rfl] at h4;exact ⟨by omega, fun _ => .inr ⟨rfl, h2, by omega⟩⟩
 ·have hz : under l a b = 0 := by
   apply cnt_zero;intro d hd;have := T.ok d hd;rw [decide_eq_false_iff_not];omega
  rw [hz];exact ⟨by omega, fun _ => .inl (by omega)⟩

theorem Tri.split {n : Int} {l : List DG} (T : Tri n l) (i j : Int) (h : 2 ≤ j - i) :
  ∃ c, i < c ∧ c < j ∧ ∀ d ∈ l, i ≤ d.f0 → d.f1 ≤ j → ¬ (d.f0 = i ∧ d.f1 = j) → d.f1 ≤ c ∨ c ≤ d.f0 := by
 obtain ⟨c, h1, h2, h3, h4⟩ := last_of (fun c => c = i + 1 ∨ Jo l i c = true) (j - (i + 1)).toNat (i + 1) j (by omega) (by omega) (.inl rfl);refine ⟨c, by omega, h2, fun d hd h5 h6 h7 => ?_⟩;by_cases h8 : d.f1 ≤ c
 ·exact .inl h8
 ·by_cases h9 : c ≤ d.f0
  ·exact .inr h9
  ·exfalso;by_cases e : d.f0 = i
   ·refine h4 d.f1 (by omega) (by omega) (.inr ?_);rw [← e];exact hasD_of hd
   ·rcases h3 with h3 | h3
    ·omega
    ·obtain ⟨x, hx, hx1, hx2⟩ := hasD_mem h3;exact T.nc x hx d hd (by omega)

theorem inner_le (l : List DG) (i j c : Int) (h : ∀ d ∈ l, i ≤ d.f0 → d.f1 ≤ j → ¬ (d.f0 = i ∧ d.f1 = j) → d.f1 ≤ c ∨ c ≤ d.f0) : inner l i j ≤ under l i c + under l c j := by
 apply cnt_split;intro d hd h1;have h2 := h d hd;simp only [decide_eq_true_eq] at h1 ⊢;have h3 := h2 h1.1 h1.2.1 h1.2.2;omega

theorem Tri.bound {n : Int} {l : List DG} (T : Tri n l) : ∀ (m : Nat) (i j : Int), j - i ≤ m → 2 ≤ j - i → (inner l i j : Int) ≤ j - i - 2
 | 0, i, j, h, h2 => by omega
 | m + 1, i, j, h, h2 => by
  obtain ⟨c, h3, h4, h5⟩ := T.split i j h2;have h6 := inner_le l i j c h5;have h7 := (T.half i c (by omega) (fun h => T.bound m i c (by omega) h)).1;have h8 := (T.half c j (by omega) (fun h => T.bound m c j (by omega) h)).1;omega

def Full (l : List DG) (i j : Int) : Prop := 2 ≤ j - i ∧ (inner l i j : Int) = j - i - 2

theorem Tri.apex {n : Int} {l : List DG} (T : Tri n l) (i j : Int) (hf : Full l i j) :
  ∃ c, i < c ∧ c < j ∧ (c - i = 1 ∨ (Jo l i c = true ∧ Full l i c)) ∧ (j - c = 1 ∨ (Jo l c j = true ∧ Full l c j)) ∧
   ∀ d ∈ l, i ≤ d.f0 → d.f1 ≤ j → ¬ (d.f0 = i ∧ d.f1 = j) → d.f1 ≤ c ∨ c ≤ d.f0 := by
 obtain ⟨h2, hf⟩ := hf;obtain ⟨c, h3, h4, h5⟩ := T.split i j h2;have h6 := inner_le l i j c h5;obtain ⟨h7, g7⟩ := T.half i c (by omega) (fun h => T.bound (c - i).toNat i c (by omega) h);obtain ⟨h8, g8⟩ := T.half c j (by omega) (fun h => T.bound (j - c).toNat c j (by omega) h);exact ⟨c, h3, h4, g7 (by omega), g8 (by omega), h5⟩

/-- Two corners are joined: by a side or by a diagonal. -/
def J (n : Int) (l : List DG) (a b : Int) : Prop := b = a + 1 ∨ (a = 0 ∧ b = n - 1) ∨ Jo l a b = true

theorem J.of {n : Int} {l : List DG} {a b : Int} {P : Prop} (h : b - a = 1 ∨ (Jo l a b = true ∧ P)) : J n l a b := by
 rcases h with h | h
 ·exact .inl (by omega)
 ·exact .inr (.inr h.1)

theorem Tri.reach {n : Int} {l : List DG} (T : Tri n l) : ∀ (m : Nat) (i j : Int), j - i ≤ m → Full l i j → 0 ≤ i → j ≤ n - 1 → J n l i j → ∀ d ∈ l, i ≤ d.f0 → d.f1 ≤ j → ¬ (d.f0 = i ∧ d.f1 = j) →
  (∃ c, d.f0 < c ∧ c < d.f1 ∧ J n l d.f0 c ∧ J n l c d.f1) ∧ ∃ o, 0 ≤ o ∧ o ≤ n - 1 ∧ ((o < d.f0 ∧ J n l o d.f0 ∧ J n l o d.f1) ∨ (d.f1 < o ∧ J n l d.f0 o ∧ J n l d.f1 o))
 | 0, i, j, h, hf, _, _, _, d, _, _, _, _ => by have := hf.1; omega
 | m + 1, i, j, h, hf, hi, hj, hJ, d, hd, h1, h2, h3 => by
  obtain ⟨c, c1, c2, c3, c4, c5⟩ := T.apex i j hf;have hok := T.ok d hd;rcases c5 d hd h1 h2 h3 with h4 | h4
  ·rcases c3 with c3 | ⟨c3, f3⟩
   ·omega
   ·by_cases e : d.f0 = i ∧ d.f1 = c
    ·obtain ⟨e1, e2⟩ := e;obtain ⟨x, x1, x2, x3, x4, _⟩ := T.apex i c f3;rw [e1, e2];exact ⟨⟨x, x1, x2, J.of x3, J.of x4⟩, j, by omega, hj, .inr ⟨by omega, hJ, J.of c4⟩⟩
    ·exact T.reach m i c (by omega) f3 hi (by omega) (.inr (.inr c3)) d hd h1 h4 e
  ·rcases c4 with c4 | ⟨c4, f4⟩
   ·omega
   ·by_cases e : d.f0 = c ∧ d.f1 = j
    ·obtain ⟨e1, e2⟩ := e;obtain ⟨x, x1, x2, x3, x4, _⟩ := T.apex c j f4;rw [e1, e2];exact ⟨⟨x, x1, x2, J.of x3, J.of x4⟩, i, by omega, by omega, .inl ⟨by omega, J.of c3, hJ⟩⟩
    ·exact T.reach m c j (by omega) f4 (by omega) hj (.inr (.inr c4)) d hd h4 h2 e

theorem Tri.Zu {n : Int} {l : List DG} (T : Tri n l) {a b c d : Int} (h1 : J n l a b) (h2 : J n l c d) (ha : 0 ≤ a) (hd : d ≤ n - 1) : ¬ (a < c ∧ c < b ∧ b < d) := by
 intro h;rcases h1 with h1 | h1 | h1
 ·omega
 ·omega
 ·rcases h2 with h2 | h2 | h2
  ·omega
  ·omega
  ·obtain ⟨x, hx, x1, x2⟩ := hasD_mem h1;obtain ⟨y, hy, y1, y2⟩ := hasD_mem h2;exact T.nc x hx y hy (by omega)

/-- The two corners with which the ends of a diagonal are joined: one inside, one outside, and no other. -/
theorem Tri.two {n : Int} {l : List DG} (T : Tri n l) (d : DG) (hd : d ∈ l) : ∃ x o, d.f0 < x ∧ x < d.f1 ∧ 0 ≤ o ∧ o ≤ n - 1 ∧ (o < d.f0 ∨ d.f1 < o) ∧
  (J n l d.f0 x ∧ J n l x d.f1) ∧ (J n l (min o d.f0) (max o d.f0) ∧ J n l (min o d.f1) (max o d.f1)) ∧
  ∀ c, 0 ≤ c → c ≤ n - 1 → c ≠ d.f0 → c ≠ d.f1 → (J n l (min c d.f0) (max c d.f0) ∧ J n l (min c d.f1) (max c d.f1)) → c = x ∨ c = o := by
 have hok := T.ok d hd;have hn := T.n3
 have hfull : Full l 0 (n - 1) := by
  refine ⟨by omega, ?_⟩
  have : inner l 0 (n - 1) = l.length := by
   unfold inner;rw [List.countP_eq_length];intro e he;have := T.ok e he;rw [decide_eq_true_eq];omega
  rw [this, T.len];omega
 obtain ⟨⟨x, x1, x2, x3, x4⟩, o, o1, o2, o3⟩ := T.reach (n - 1).toNat 0 (n - 1) (by omega) hfull (by omega) (by omega) (.inr (.inl ⟨rfl, rfl⟩)) d hd (by omega) (by omega) (by omega);refine ⟨x, o, x1, x2, o1, o2, by omega, ⟨x3, x4⟩, ?_, ?_⟩
 ·rcases o3 with ⟨h, h5, h6⟩ | ⟨h, h5, h6⟩
  ·rw [Int.min_eq_left (by omega), Int.max_eq_right (by omega), Int.min_eq_left (by omega), Int.max_eq_right (by omega)];exact ⟨h5, h6⟩
  ·rw [Int.min_eq_right (by omega), Int.max_eq_left (by omega), Int.min_eq_right (by omega), Int.max_eq_left (by omega)];exact ⟨h5, h6⟩
 ·intro c c1 c2 c3 c4 ⟨j1, j2⟩;by_cases hx : c = x
  ·exact .inl hx
  ·by_cases ho : c = o
   ·exact .inr ho
   ·exfalso;by_cases hin : d.f0 < c ∧ c < d.f1
    ·rw [Int.min_eq_right (by omega), Int.max_eq_left (by omega)] at j1;rw [Int.min_eq_left (by omega), Int.max_eq_right (by omega)] at j2;by_cases hlt : c < x
     ·exact T.Zu x3 j2 (by omega) (by omega) (by omega)
     ·exact T.Zu j1 x4 (by omega) (by omega) (by omega)
    ·rcases o3 with ⟨h, h5, h6⟩ | ⟨h, h5, h6⟩
     ·by_cases hc : c < d.f0
      ·rw [Int.min_eq_left (by omega), Int.max_eq_right (by omega)] at j1;rw [Int.min_eq_left (by omega), Int.max_eq_right (by omega)] at j2;by_cases hlt : c < o
       ·exact T.Zu j1 h6 (by omega) (by omega) (by omega)
       ·exact T.Zu h5 j2 (by omega) (by omega) (by omega)
      ·rw [Int.min_eq_right (by omega), Int.max_eq_left (by omega)] at j1;exact T.Zu h6 j1 (by omega) (by omega) (by omega)
     ·by_cases hc : c < d.f0
      ·rw [Int.min_eq_left (by omega), Int.max_eq_right (by omega)] at j2;exact T.Zu j2 h5 (by omega) (by omega) (by omega)
      ·rw [Int.min_eq_right (by omega), Int.max_eq_left (by omega)] at j1;rw [Int.min_eq_right (by omega), Int.max_eq_left (by omega)] at j2;by_cases hlt : c < o
       ·exact T.Zu j1 h6 (by omega) (by omega) (by omega)
       ·exact T.Zu h5 j2 (by omega) (by omega) (by omega)

theorem pair_chain (l : List DG) (h : ∀ j, 0 < j → j < l.length → (rD l (j - 1)).f0 < (rD l j).f0 ∨ ((rD l (j - 1)).f0 = (rD l j).f0 ∧ (rD l (j - 1)).f1 < (rD l j).f1)) : l.Pairwise fun d e => d.f0 < e.f0 ∨ (d.f0 = e.f0 ∧ d.f1 < e.f1) := by
 induction l with
 | nil => exact List.Pairwise.nil
 | cons x l ih =>
  have h' := ih (fun j j1 j2 => by
   have := h (j + 1) (by omega) (by simpa using j2);rw [show j + 1 - 1 = (j - 1) + 1 by omega] at this;simpa [rD, qb] using this)
  refine List.pairwise_cons.2 ⟨?_, h'⟩;intro y hy;cases l with
  | nil => cases hy
  | cons z l =>
   have h0 := h 1 (by omega) (by simp);have h1 : x.f0 < z.f0 ∨ (x.f0 = z.f0 ∧ x.f1 < z.f1) := (by simpa [rD, qb] using h0);rcases List.mem_cons.1 hy with e | e
   ·rw [e];exact h1
   ·have := (List.pairwise_cons.1 h').1 y e;omega

theorem rD_get (l : List DG) (j : Nat) (h : j < l.length) : rD l j = l[j] := by
 unfold rD qb;rw [Int.toNat_natCast, List.getD_eq_getElem?_getD, List.getElem?_eq_getElem h];rfl

theorem tri_of (n : Int) (l : List DG) (h : vE n l = true) : Tri n l := by
 unfold vE goodD at h;simp only [Bool.and_eq_true, decide_eq_true_eq, List.all_eq_true] at h;obtain ⟨hn, hl, hs⟩ := h;have hst : ∀ j, j < l.length → stepD n l j = true := fun j hj => hs j (List.mem_range'_1.2 ⟨by omega, by omega⟩)
 have hok : ∀ d ∈ l, 0 ≤ d.f0 ∧ d.f1 ≤ n - 1 ∧ 2 ≤ d.f1 - d.f0 ∧ d.f1 - d.f0 ≤ n - 2 := by
  intro d hd;obtain ⟨j, hj, e⟩ := List.getElem_of_mem hd;have h1 := hst j hj;rw [Qf, rD_get l j hj, e] at h1;simp only [Bool.and_eq_true, QL, decide_eq_true_eq] at h1;omega
 have hnc : ∀ (j : Nat) (hj : j < l.length) (i : Nat) (hi : i < j), uS l[j].f0 l[j].f1 l[i].f0 l[i].f1 = false := by
  intro j hj i hi;have h1 := hst j hj;rw [Qf, rD_get l j hj] at h1;simp only [Bool.and_eq_true, Bool.not_eq_true'] at h1
  have h2 := List.any_eq_false.1 h1.2.2 l[i] (by
   rw [List.mem_take_iff_getElem];exact ⟨i, by omega, rfl⟩)
  simpa using h2
 refine ⟨hn, hl, hok, ?_, pair_chain l ?_⟩
 ·intro d hd e he hx;obtain ⟨i, hi, e1⟩ := List.getElem_of_mem hd;obtain ⟨j, hj, e2⟩ := List.getElem_of_mem he;subst e1 e2;rcases Nat.lt_trichotomy i j with h1 | h1 | h1
  ·have := hnc j hj i h1;simp only [uS, Bool.or_eq_false_iff, decide_eq_false_iff_not] at this;omega
  ·subst h1;omega
  ·have := hnc i hi j h1;simp only [uS, Bool.or_eq_false_iff, decide_eq_false_iff_not] at this;omega
 ·intro j j1 j2;have h1 := hst j j2;rw [Qf] at h1;have b0 : (j == 0) = false := (by rw [beq_eq_false_iff_ne]; omega);rw [b0] at h1;simp only [Bool.and_eq_true, Bool.false_or, kF, decide_eq_true_eq] at h1;exact h1.2.1

def NC (b s : List DG) : Prop := s.Pairwise (fun d e => xe e d = false) ∧ ∀ d ∈ s, ∀ e ∈ b, xe d e = false
theorem any_false {d : DG} {b : List DG} (h : ∀ e ∈ b, xe d e = false) : b.any (xe d) = false := by
 rw [List.any_eq_false];intro e he;rw [h e he];simp
theorem lookL_full (m : Int) {r s : List DG} (hs : s.Sublist r) : ∀ b : List DG, NC b s → (b.length : Int) < m → ((b ++ s).length : Int) = m → b ++ s ∈ uZ m r b := by
 induction hs with
 | slnil =>
  intro b _ h1 h2;rw [List.append_nil] at h2;omega
 | cons d _ ih =>
  intro b hn h1 h2;rw [kH];exact List.mem_append_right _ (ih b hn h1 h2)
 | @cons_cons s r d _ ih =>
  intro b hn h1 h2;rw [kH];refine List.mem_append_left _ ?_;obtain ⟨p1, p2⟩ := hn;obtain ⟨q1, q2⟩ := List.pairwise_cons.1 p1;rw [any_false (p2 d (List.mem_cons_self ..)), if_neg (by simp)];have e : b ++ d :: s = (b ++ [d]) ++ s := (by simp);rw [e] at h2 ⊢;unfold xE;by_cases hl : ((b ++ [d]).length : Int) = m
  ·have : s = [] := by
    rw [List.length_append] at h2;exact List.length_eq_zero_iff.1 (by omega)
   rw [if_pos hl, this, List.append_nil];exact List.mem_singleton.2 rfl
  ·rw [if_neg hl];refine ih (b ++ [d]) ⟨q2, fun x hx y hy => ?_⟩ ?_ h2
   ·rcases List.mem_append.1 hy with hy | hy
    ·exact p2 x (List.mem_cons_of_mem _ hx) y hy
    ·rw [List.mem_singleton.1 hy];exact q1 x hx
   ·rw [List.length_append, List.length_singleton] at hl ⊢;omega
theorem Jr (m : Int) : ∀ (r b : List DG), ∀ x ∈ uZ m r b, ∃ s, s.Sublist r ∧ NC b s ∧ x = b ++ s
 | [], _ => fun x hx => by cases hx
 | d :: r, b => fun x hx => by
  rw [kH] at hx;rcases List.mem_append.1 hx with h | h
  ·by_cases ha : b.any (xe d) = true
   ·rw [if_pos ha] at h;cases h
   ·rw [if_neg ha] at h
    have hb : ∀ e ∈ b, xe d e = false := by
     intro e he;cases hc : xe d e with
     | false => rfl
     | true => exact absurd (List.any_eq_true.2 ⟨e, he, hc⟩) ha
    unfold xE at h;split at h
    ·rw [List.mem_singleton.1 h];refine ⟨[d], (List.nil_sublist r).cons_cons d, ⟨List.pairwise_singleton _ _, fun x hx => ?_⟩, rfl⟩;rw [List.mem_singleton.1 hx];exact hb
    ·obtain ⟨s, h1, ⟨h2, h3⟩, h4⟩ := Jr m r _ x h;refine ⟨d :: s, h1.cons_cons d, ⟨List.pairwise_cons.2 ⟨fun y hy => h3 y hy d (by simp), h2⟩, fun y hy => ?_⟩, by rw [h4]; simp⟩;rcases List.mem_cons.1 hy with e | e
     ·rw [e];exact hb
     ·exact fun z hz => h3 y e z (List.mem_append_left _ hz)
  ·obtain ⟨s, h1, h2, h3⟩ := Jr m r b x h;exact ⟨s, h1.cons d, h2, h3⟩
def ltd (x y : DG) : Prop := x.f0 < y.f0 ∨ (x.f0 = y.f0 ∧ x.f1 < y.f1)
instance (x y : DG) : Decidable (ltd x y) := by unfold ltd; exact inferInstance
theorem Q8 : ∀ (D s : List DG), D.Pairwise ltd → s.Pairwise ltd → (∀ x ∈ s, x ∈ D) → s.Sublist D
 | [], s, _, _, h => by
  cases s with
  | nil => exact List.Sublist.slnil
  | cons x s => exact absurd (h x (List.mem_cons_self ..)) (by simp)
 | y :: D, [], _, _, _ => List.nil_sublist _
 | y :: D, x :: s, hD, hs, h => by
  obtain ⟨d1, d2⟩ := List.pairwise_cons.1 hD;obtain ⟨s1, s2⟩ := List.pairwise_cons.1 hs;have irr : ∀ z : DG, ¬ ltd z z := fun z hz => (by unfold ltd at hz; omega);have asy : ∀ z u : DG, ltd z u → ¬ ltd u z := fun z u h1 h2 => (by unfold ltd at h1 h2; omega);have tr : ∀ z u v : DG, ltd z u → ltd u v → ltd z v := fun z u v h1 h2 => (by unfold ltd at *; omega);rcases List.mem_cons.1 (h x (List.mem_cons_self ..)) with e | e
  ·rw [e];refine (Q8 D s d2 s2 (fun z hz => ?_)).cons_cons y;rcases List.mem_cons.1 (h z (List.mem_cons_of_mem _ hz)) with e2 | e2
   ·have h3 := s1 z hz;rw [e, e2] at h3;exact absurd h3 (irr y)
   ·exact e2
  ·have hy := d1 x e;refine (Q8 D (x :: s) d2 hs (fun z hz => ?_)).cons y;rcases List.mem_cons.1 (h z hz) with e2 | e2
   ·rcases List.mem_cons.1 hz with e3 | e3
    ·exact absurd (by have h9 := hy; rw [← e3, e2] at h9; exact h9) (irr y)
    ·have h3 := s1 z e3;rw [e2] at h3;exact absurd h3 (asy _ _ hy)
   ·exact e2
theorem diags_mem (n : Int) (hn : 3 ≤ n ∧ n ≤ 8) (d : DG) : d ∈ xH n ↔ (0 ≤ d.f0 ∧ d.f1 ≤ n - 1 ∧ 2 ≤ d.f1 - d.f0 ∧ d.f1 - d.f0 ≤ n - 2) := by
 obtain ⟨a, b⟩ := d;unfold xH kI Z4 pdB;simp only [List.mem_flatMap, List.mem_map, List.mem_filter, List.mem_range'_1, decide_eq_true_eq];constructor
 ·rintro ⟨x, ⟨h1, h2⟩, y, ⟨⟨h3, h4⟩, h5⟩, h6⟩;injection h6 with h6 h7;omega
 ·rintro ⟨h1, h2, h3, h4⟩;refine ⟨a.toNat, ⟨by omega, by omega⟩, b.toNat, ⟨⟨by omega, by omega⟩, by omega⟩, ?_⟩;rw [Int.toNat_of_nonneg (by omega), Int.toNat_of_nonneg (by omega)]
theorem Ju (n : Int) (hn : 3 ≤ n ∧ n ≤ 8) : (xH n).Pairwise ltd := by
 have : n = 3 ∨ n = 4 ∨ n = 5 ∨ n = 6 ∨ n = 7 ∨ n = 8 := (by omega);rcases this with rfl | rfl | rfl | rfl | rfl | rfl <;> decide
theorem crossP_of (d e : DG) (h : xe d e = false) : ¬ (d.f0 < e.f0 ∧ e.f0 < d.f1 ∧ d.f1 < e.f1) ∧ ¬ (e.f0 < d.f0 ∧ d.f0 < e.f1 ∧ e.f1 < d.f1) := by
 unfold xe at h;rw [Bool.or_eq_false_iff, decide_eq_false_iff_not, decide_eq_false_iff_not] at h;exact h
theorem crossP_no {d e : DG} (h1 : ¬ (d.f0 < e.f0 ∧ e.f0 < d.f1 ∧ d.f1 < e.f1)) (h2 : ¬ (e.f0 < d.f0 ∧ d.f0 < e.f1 ∧ e.f1 < d.f1)) : xe d e = false := by
 unfold xe;rw [Bool.or_eq_false_iff, decide_eq_false_iff_not, decide_eq_false_iff_not];exact ⟨h1, h2⟩
theorem tris_only (n : Int) (hn : 3 ≤ n ∧ n ≤ 8) (x : List DG) (hx : x ∈ jZ n) : Tri n x := by
 have hlen := QD n x hx
 have hs : ∃ s, s.Sublist (xH n) ∧ NC [] s ∧ x = s := by
  unfold jZ xE at hx;split at hx
  ·exact ⟨[], List.nil_sublist _, ⟨List.Pairwise.nil, fun d hd => by cases hd⟩, List.mem_singleton.1 hx⟩
  ·exact Jr _ _ _ x hx
 obtain ⟨s, h1, ⟨h2, _⟩, rfl⟩ := hs;refine ⟨by omega, hlen, fun d hd => (diags_mem n hn d).1 (h1.subset hd), ?_, (Ju n hn).sublist h1⟩
 have key : ∀ (l : List DG), l.Pairwise (fun d e => xe e d = false) → ∀ d ∈ l, ∀ e ∈ l, ¬ (d.f0 < e.f0 ∧ e.f0 < d.f1 ∧ d.f1 < e.f1) := by
  intro l
  induction l with
  | nil => intro _ d hd; cases hd
  | cons y l ih =>
   intro hp d hd e he;obtain ⟨p1, p2⟩ := List.pairwise_cons.1 hp;rcases List.mem_cons.1 hd with hd2 | hd2
   ·rcases List.mem_cons.1 he with he2 | he2
    ·rw [hd2, he2];omega
    ·rw [hd2];exact (crossP_of _ _ (p1 e he2)).2
   ·rcases List.mem_cons.1 he with he2 | he2
    ·rw [he2];exact (crossP_of _ _ (p1 d hd2)).1
    ·exact ih p2 d hd2 e he2
 exact key _ h2
theorem tris_full (n : Int) (hn : 3 ≤ n ∧ n ≤ 8) (x : List DG) (T : Tri n x) : x ∈ jZ n := by
 have hsub : x.Sublist (xH n) := Q8 _ _ (Ju n hn) T.sorted (fun d hd => (diags_mem n hn d).2 (T.ok d hd))
 have hnc : NC [] x := by
  refine ⟨?_, fun d _ e he => by cases he⟩;refine List.Pairwise.imp_of_mem (R := fun _ _ => True) ?_ (List.pairwise_of_forall (fun _ _ => trivial));intro d e hd he _;exact crossP_no (T.nc e he d hd) (T.nc d hd e he)
 have hl := T.len;unfold jZ xE;by_cases h : (([] : List DG).length : Int) = n - 3
 ·rw [if_pos h];have : x = [] := List.length_eq_zero_iff.1 (by simp at h; omega);rw [this];exact List.mem_singleton.2 rfl
 ·rw [if_neg h];exact lookL_full (n - 3) hsub [] hnc (by simp at h ⊢; omega) (by simpa using hl)

def eqL : List DG → List DG → Bool
 | [], [] => true
 | x :: l, y :: m => (x.f0 == y.f0 && x.f1 == y.f1) && eqL l m
 | _, _ => false
theorem ZK : ∀ (l m : List DG), eqL l m = true ↔ l = m
 | [], [] => by simp [eqL]
 | [], y :: m => by simp [eqL]
 | x :: l, [] => by simp [eqL]
 | x :: l, y :: m => by
  obtain ⟨a, b⟩ := x;obtain ⟨c, d⟩ := y;rw [eqL, Bool.and_eq_true, Bool.and_eq_true, ZK l m, beq_iff_eq, beq_iff_eq];simp
theorem eqL_len : ∀ (l m : List DG), eqL l m = true → l.length = m.length := fun l m h => by rw [(ZK l m).1 h]
theorem sameis_rounds (l m : List DG) (hlm : l.length = m.length) (hl : l.length ≤ 1048576) (e : Nat) : ∀ (i : Nat), i + e = l.length → ∀ k, e < k → zk.l0 k l m (l.length : Int) (i : Int) = some (eqL (l.drop i) (m.drop i)) := by
 induction e with
 | zero =>
  intro i hi k hk;obtain ⟨k, rfl⟩ : ∃ q, k = q + 1 := ⟨k - 1, by omega⟩;simp only [zk.l0];rw [if_neg (by omega), List.drop_of_length_le (by omega), List.drop_of_length_le (by omega)];rfl
 | succ e ih =>
  intro i hi k hk;obtain ⟨k, rfl⟩ : ∃ q, k = q + 1 := ⟨k - 1, by omega⟩;rw [uU l i (by omega), uU m i (by omega), eqL];simp only [zk.l0];rw [if_pos (by omega), if_pos (by omega), if_pos (by omega), if_pos (by omega)];cases h1 : (rD l i).f0 == (rD m i).f0 <;> cases h2 : (rD l i).f1 == (rD m i).f1
  ·rw [if_pos (by simp)]; simp
  ·rw [if_pos (by simp)]; simp
  ·rw [if_pos (by simp)]; simp
  ·rw [if_neg (by simp), zK i (by omega), ih (i + 1) (by omega) k (by omega)]; simp
theorem JA (l m : List DG) (hl : l.length ≤ 1048576) (k : Nat) (hk : l.length < k) : zk.f k l m = some (eqL l m) := by
 unfold zk.f;by_cases h : l.length = m.length
 ·rw [if_pos (by omega)];exact sameis_rounds l m h hl l.length 0 (by omega) k hk
 ·rw [if_neg (by omega)];cases he : eqL l m with
  | false => rfl
  | true => exact absurd (eqL_len l m he) h
theorem sameE_l0 (l m : List DG) (x12 : Int) : ∀ (k : Nat) (x13 : Int), zk.l0 k l m x12 x13 = qH.l0 k l m x12 x13
 | 0, _ => rfl
 | k + 1, x13 => by
  simp only [zk.l0, qH.l0, sameE_l0 l m x12 k]
theorem ZE (l m : List DG) (hl : l.length ≤ 1048576) (k : Nat) (hk : l.length < k) : qH.f k l m = some (eqL l m) := by
 rw [← JA l m hl k hk];unfold zk.f qH.f;rw [sameE_l0]

theorem Q5 {keep : List DG → Option Bool} {of : List DG → List DG} {ts : List (List DG)} (h : ∀ x ∈ ts, keep x = some (eqL (of x) x)) : kZ keep ts = some (ts.filter fun x => eqL (of x) x) := by
 unfold kZ
 have ha : (ts.all fun x => (keep x).isSome) = true := by
  rw [List.all_eq_true];intro x hx;rw [h x hx];rfl
 rw [if_pos ha];congr 1;refine List.filter_congr ?_;intro x hx;rw [h x hx];rfl
theorem Zl (L : List (List DG)) (i : Nat) (h : i < L.length) : yA L (i : Int) = L[i] := by
 unfold yA;rw [Int.toNat_natCast, List.getD_eq_getElem?_getD, List.getElem?_eq_getElem h];rfl
theorem filter_drop {q : List DG → Bool} (L : List (List DG)) (i : Nat) (h : i < L.length) : (L.drop i).filter q = (if q L[i] = true then [L[i]] else []) ++ (L.drop (i + 1)).filter q := by
 rw [List.drop_eq_getElem_cons h, List.filter_cons];split <;> rfl

theorem least_tells (a b : Int) : xN.f a b = some (min a b) := by
 unfold xN.f;split <;> congr 1 <;> omega
theorem most_tells (a b : Int) : xX.f a b = some (max a b) := by
 unfold xX.f;split <;> congr 1 <;> omega

theorem Tri.Jq {n : Int} {l : List DG} (T : Tri n l) : l.length ≤ 9 := by
 have := T.len;have := T.n3;omega

def ltD (x y : DG) : Prop := x.f0 < y.f0 ∨ (x.f0 = y.f0 ∧ x.f1 < y.f1)
def leD (x y : DG) : Prop := x.f0 < y.f0 ∨ (x.f0 = y.f0 ∧ x.f1 ≤ y.f1)
theorem leD_antisymm {x y : DG} (h1 : leD x y) (h2 : leD y x) : x = y := by
 obtain ⟨a, b⟩ := x;obtain ⟨c, d⟩ := y;unfold leD at h1 h2;simp only at h1 h2;have e1 : a = c := (by omega);have e2 : b = d := (by omega);rw [e1, e2]
theorem uI : ∀ {l m : List DG}, l.Perm m → l.Pairwise leD → m.Pairwise leD → l = m
 | [], m, h, _, _ => (List.Perm.nil_eq h)
 | x :: l, [], h, _, _ => by have := h.length_eq; simp at this
 | x :: l, y :: m, h, h1, h2 => by
  obtain ⟨a1, a2⟩ := List.pairwise_cons.1 h1;obtain ⟨b1, b2⟩ := List.pairwise_cons.1 h2
  have e : x = y := by
   have hx : x ∈ y :: m := h.subset (List.mem_cons_self ..);have hy : y ∈ x :: l := h.symm.subset (List.mem_cons_self ..);rcases List.mem_cons.1 hx with hx | hx
   ·exact hx
   ·rcases List.mem_cons.1 hy with hy | hy
    ·exact hy.symm
    ·exact leD_antisymm (a1 y hy) (b1 x hx)
  rw [e] at h ⊢;rw [uI (List.Perm.cons_inv h) a2 b2]
theorem QR {A B : List DG} {d : DG} (h : (A ++ B).Pairwise leD) (hA : ∀ x ∈ A, leD x d) (hB : ∀ x ∈ B, leD d x) : (A ++ d :: B).Pairwise leD := by
 rw [List.pairwise_append] at h ⊢;obtain ⟨h1, h2, h3⟩ := h;refine ⟨h1, List.pairwise_cons.2 ⟨hB, h2⟩, fun x hx y hy => ?_⟩;rcases List.mem_cons.1 hy with e | e
 ·rw [e];exact hA x hx
 ·exact h3 x hx y e
theorem leD_trans {x y z : DG} (h1 : leD x y) (h2 : leD y z) : leD x z := by
 unfold leD at *;omega
theorem rT_mid (A : List DG) (d : DG) (R : List DG) (i : Int) (hi : i = (A.length : Int)) : qb (A ++ d :: R) i = d := by
 unfold qb;rw [hi, Int.toNat_natCast, List.getD_eq_getElem?_getD];simp
/-- The reference's place for one: behind all that are less. -/
theorem ps_l1 (d : DG) (x8 : List DG) (x9 x10 : Int) (e : Nat) : ∀ (A B : List DG) (k : Nat), B.length = e → A.length + B.length ≤ 1000 → (A ++ B).Pairwise leD → (∀ x ∈ A, leD x d) → e + 2 < k →
  ∃ S k', k ≤ k' + e + 1 ∧ S.Pairwise leD ∧ S.Perm (d :: (A ++ B)) ∧ qC.l1 k (A ++ B) (A.length : Int) x8 x9 x10 d.f0 d.f1 = qC.l0 k' S x8 x9 (wrap64 (x10 + 1)) := by
 induction e with
 | zero =>
  intro A B k hB hl hs hA hk;obtain ⟨k, rfl⟩ : ∃ q, k = q + 1 := ⟨k - 1, by omega⟩;have : B = [] := List.length_eq_zero_iff.1 hB;subst this;rw [List.append_nil] at hs ⊢;refine ⟨A ++ [d], k, by omega, QR (by simpa using hs) hA (by simp), by simpa using (List.perm_append_comm (l₁ := A) (l₂ := [d])), ?_⟩;simp only [qC.l1, Int.toNat_natCast, Option.bind_some, List.nil_append, List.take_length, List.drop_length, List.length_append, List.length_nil, List.length_singleton, List.append_nil];rw [if_neg (by omega), if_pos (by omega), if_pos (by omega), if_pos (by omega), if_pos (by omega), if_pos (by omega)]
 | succ e ih =>
  intro A B k hB hl hs hA hk;obtain ⟨k, rfl⟩ : ∃ q, k = q + 1 := ⟨k - 1, by omega⟩;cases B with
  | nil => simp at hB
  | cons z B =>
   rw [List.length_cons] at hB hl
   have w : wrap64 ((A.length : Int) + 1) = ((A ++ [z]).length : Int) := by
    rw [List.length_append, List.length_singleton];unfold wrap64;omega
   have r1 : qb (A ++ z :: B) (A.length : Int) = z := rT_mid _ _ _ _ rfl;have hlen : (A ++ z :: B).length = A.length + (B.length + 1) := (by simp);simp only [qC.l1];rw [if_pos (by rw [hlen]; omega), if_pos (by omega), r1, QZ, Option.bind_some, w];cases hc : kF z.f0 z.f1 d.f0 d.f1
   ·rw [if_neg (by simp)]
    have hdz : leD d z := by
     simp only [kF, decide_eq_false_iff_not] at hc;unfold leD;omega
    refine ⟨A ++ d :: z :: B, k, by omega, QR hs hA ?_, List.perm_middle, ?_⟩
    ·intro x hx;rcases List.mem_cons.1 hx with e | e
     ·rw [e];exact hdz
     ·exact leD_trans hdz ((List.pairwise_cons.1 (List.pairwise_append.1 hs).2.1).1 x e)
    ·have t1 : (A ++ z :: B).take A.length = A := (by simp);have t2 : (A ++ z :: B).drop A.length = z :: B := (by simp);simp only [Int.toNat_natCast, Option.bind_some, List.nil_append, t1, t2, List.length_append, List.length_nil, List.length_singleton, List.length_cons];rw [if_pos (by omega), if_pos (by omega), if_pos (by omega), if_pos (by omega)];simp
   ·rw [if_pos rfl]
    have hzd : leD z d := by
     simp only [kF, decide_eq_true_eq] at hc;unfold leD;omega
    have ea : A ++ z :: B = (A ++ [z]) ++ B := (by simp);rw [ea] at hs ⊢
    obtain ⟨S, k', h1, h2, h3, h4⟩ := ih (A ++ [z]) B k (by omega) (by rw [List.length_append, List.length_singleton]; omega) hs (by
     intro x hx;rcases List.mem_append.1 hx with e | e
     ·exact hA x e
     ·rw [List.mem_singleton] at e;rw [e];exact hzd) (by omega)
    exact ⟨S, k', by omega, h2, h3, h4⟩

theorem ps_l0 (x8 : List DG) (hx : x8.length ≤ 100) (e : Nat) : ∀ (i : Nat) (S : List DG) (k : Nat), i + e = x8.length → S.length = i → S.Pairwise leD → S.Perm (x8.take i) → 110 * e + 10 < k →
  ∃ r, qC.l0 k S x8 (x8.length : Int) (i : Int) = some r ∧ r.Pairwise leD ∧ r.Perm x8 := by
 induction e with
 | zero =>
  intro i S k hi hS hs hp hk;obtain ⟨k, rfl⟩ : ∃ q, k = q + 1 := ⟨k - 1, by omega⟩;refine ⟨S, ?_, hs, ?_⟩
  ·simp only [qC.l0];rw [if_neg (by omega)]
  ·rwa [List.take_of_length_le (by omega)] at hp
 | succ e ih =>
  intro i S k hi hS hs hp hk;obtain ⟨k, rfl⟩ : ∃ q, k = q + 1 := ⟨k - 1, by omega⟩;obtain ⟨S', k', h1, h2, h3, h4⟩ := ps_l1 (rD x8 i) x8 (x8.length : Int) (i : Int) S.length [] S k rfl (by simp; omega) (by simpa using hs) (by simp) (by omega);rw [zK i (by omega)] at h4;have hlen : S'.length = i + 1 := by rw [h3.length_eq]; simp; omega
  have hp' : S'.Perm (x8.take (i + 1)) := by
   refine h3.trans ?_
   have e1 : x8.take (i + 1) = x8.take i ++ [rD x8 i] := by
    rw [List.take_succ_eq_append_getElem (by omega)];congr 2;unfold rD qb;rw [Int.toNat_natCast, List.getD_eq_getElem?_getD, List.getElem?_eq_getElem (by omega)];rfl
   rw [e1, List.nil_append];exact (List.Perm.cons _ hp).trans (List.perm_append_comm (l₁ := [rD x8 i]))
  obtain ⟨r, g1, g2, g3⟩ := ih (i + 1) S' k' (by omega) hlen h2 hp' (by omega);refine ⟨r, ?_, g2, g3⟩;simp only [qC.l0];rw [if_pos (by omega), if_pos (by omega), if_pos (by omega)];rw [← g1, ← h4];rfl

theorem Zz (l : List DG) (h : l.length ≤ 100) (k : Nat) (hk : 11010 < k) : ∃ r, qC.f k l = some r ∧ r.Pairwise leD ∧ r.Perm l :=
 ps_l0 l h l.length 0 [] k (by omega) rfl List.Pairwise.nil (by simp) (by omega)

theorem cmpD_neg (a b c d : Int) : cmpD a b c d < 0 ↔ kF a b c d = true := by
 have := cmpD_nonneg a b c d;cases h : kF a b c d
 ·rw [h] at this;simp only [true_iff, iff_true] at this;simp only [Bool.false_eq_true, iff_false];omega
 ·rw [h] at this;simp only [Bool.true_eq_false, iff_false] at this;simp only [iff_true];omega
theorem swap_set (A : List DG) (z d : DG) (R : List DG) : ((A ++ z :: d :: R).set (A.length + 1) z).set A.length d = A ++ d :: z :: R := by
 induction A with
 | nil => rfl
 | cons x A ih => simpa using ih

theorem ins_l1 (n : Int) (d : DG) (C : List DG) (m : Nat) : ∀ (A B : List DG) (k : Nat) (i : Nat), A.length = m → (A ++ B).Pairwise leD → (∀ x ∈ B, leD d x) → i = A.length + B.length → i ≤ 1000 → m + 8 < k →
  ∃ S k', k ≤ k' + m + 1 ∧ S.Pairwise leD ∧ S.Perm (A ++ d :: B) ∧ qm.l1 k (A ++ d :: (B ++ C)) 0 n (i : Int) (m : Int) = qm.l0 k' (S ++ C) 0 n ((i : Int) + 1) := by
 induction m with
 | zero =>
  intro A B k i hA hs hB hi hi2 hk;obtain ⟨k, rfl⟩ : ∃ q, k = q + 1 := ⟨k - 1, by omega⟩;have : A = [] := List.length_eq_zero_iff.1 hA;subst this;have w : wrap64 ((i : Int) + 1) = (i : Int) + 1 := (by unfold wrap64; omega);refine ⟨d :: B, k, by omega, QR hs (by simp) hB, List.Perm.refl _, ?_⟩;simp only [qm.l1];rw [if_neg (by omega), w];rfl
 | succ m ih =>
  intro A B k i hA hs hB hi hi2 hk;obtain ⟨k, rfl⟩ : ∃ q, k = q + 1 := ⟨k - 1, by omega⟩;rcases List.eq_nil_or_concat A with e | ⟨A', z, e⟩
  ·subst e;simp at hA
  ·rw [List.concat_eq_append] at e;subst e;rw [List.length_append, List.length_singleton] at hA hi;have w0 : wrap64 ((i : Int) + 1) = (i : Int) + 1 := (by unfold wrap64; omega);have w1 : wrap64 (((m + 1 : Nat) : Int) - 1) = (m : Int) := (by unfold wrap64; omega);have el : A' ++ [z] ++ d :: (B ++ C) = A' ++ z :: d :: (B ++ C) := by simp
   have r1 : qb (A' ++ z :: d :: (B ++ C)) ((m + 1 : Nat) : Int) = d := by
    rw [← el];exact rT_mid _ _ _ _ (by rw [List.length_append, List.length_singleton]; omega)
   have r2 : qb (A' ++ z :: d :: (B ++ C)) (m : Int) = z := rT_mid _ _ _ _ (by omega);have hlen : (A' ++ z :: d :: (B ++ C)).length = A'.length + (B.length + C.length + 2) := (by simp);rw [el];simp only [qm.l1];rw [if_pos (by omega), if_pos (by omega), if_pos (by rw [hlen]; omega), w1, if_pos (by omega), if_pos (by rw [hlen]; omega), r1, r2, uC _ _ _ _ k (by omega), Option.bind_some, w0];by_cases hc : cmpD d.f0 d.f1 z.f0 z.f1 < 0
   ·rw [if_pos hc];have hlt := (cmpD_neg _ _ _ _).1 hc;simp only [kF, decide_eq_true_eq] at hlt
    have hsw : ((A' ++ z :: d :: (B ++ C)).set ((m + 1 : Nat) : Int).toNat ⟨z.f0, z.f1⟩).set (m : Int).toNat ⟨d.f0, d.f1⟩ = A' ++ d :: ((z :: B) ++ C) := by
     rw [Int.toNat_natCast, Int.toNat_natCast, show m = A'.length by omega];exact swap_set A' z d (B ++ C)
    rw [hsw];rw [List.append_assoc] at hs
    obtain ⟨S, k', h1, h2, h3, h4⟩ := ih A' (z :: B) k i (by omega) (by simpa using hs) (by
     intro x hx;have hdz : leD d z := (by unfold leD; omega);rcases List.mem_cons.1 hx with e | e
     ·rw [e];exact hdz
     ·exact hB x e) (by simp; omega) hi2 (by omega)
    refine ⟨S, k', by omega, h2, h3.trans ?_, h4⟩;have : (A' ++ [z] ++ d :: B) = A' ++ z :: d :: B := (by simp);rw [this];exact List.Perm.append_left A' (List.Perm.swap z d B)
   ·rw [if_neg hc]
    have hzd : leD z d := by
     have := mt (cmpD_neg _ _ _ _).2 hc;simp only [kF, decide_eq_true_eq] at this;unfold leD;omega
    refine ⟨A' ++ [z] ++ d :: B, k, by omega, ?_, List.Perm.refl _, ?_⟩
    ·refine QR hs (fun x hx => ?_) hB;rcases List.mem_append.1 hx with e | e
     ·have h5 := (List.pairwise_append.1 (List.pairwise_append.1 hs).1).2.2 x e z (by simp);exact leD_trans h5 hzd
     ·rw [List.mem_singleton] at e;rw [e];exact hzd
    ·simp

theorem ins_l0 (n : Nat) (hn : n ≤ 12) (C : List DG) : ∀ (S : List DG) (k : Nat), S.Pairwise leD → 0 < S.length → S.length + C.length = n → 25 * C.length + 25 < k →
  ∃ r, qm.l0 k (S ++ C) 0 (n : Int) (S.length : Int) = some r ∧ r.Pairwise leD ∧ r.Perm (S ++ C) := by
 induction C with
 | nil =>
  intro S k hs h0 hl hk;obtain ⟨k, rfl⟩ : ∃ q, k = q + 1 := ⟨k - 1, by omega⟩;refine ⟨S, ?_, hs, by simp⟩;simp only [qm.l0, List.append_nil];rw [if_neg (by simp at hl; omega)]
 | cons d C ih =>
  intro S k hs h0 hl hk;rw [List.length_cons] at hl hk;obtain ⟨k, rfl⟩ : ∃ q, k = q + 1 := ⟨k - 1, by omega⟩;obtain ⟨S', k', h1, h2, h3, h4⟩ := ins_l1 (n : Int) d C S.length S [] k S.length rfl (by simpa using hs) (by simp) (by simp) (by omega) (by omega);have hlen : S'.length = S.length + 1 := (by rw [h3.length_eq]; simp);obtain ⟨r, g1, g2, g3⟩ := ih S' k' h2 (by omega) (by omega) (by omega);refine ⟨r, ?_, g2, g3.trans ?_⟩
  ·simp only [qm.l0];rw [if_pos (by omega)];rw [show (S'.length : Int) = (S.length : Int) + 1 by omega] at g1;rw [← g1, ← h4];simp
  ·have := List.Perm.append_right C h3;simpa using this

theorem len12 (k : Nat) (L : Nat) (h : L ≤ 12) : ∃ r, bits_Len.f (k + 1) (IntKind.u64.wrap (L : Int)) = some r := by
 have : L = 0 ∨ L = 1 ∨ L = 2 ∨ L = 3 ∨ L = 4 ∨ L = 5 ∨ L = 6 ∨ L = 7 ∨ L = 8 ∨ L = 9 ∨ L = 10 ∨ L = 11 ∨ L = 12 := (by omega);rcases this with rfl | rfl | rfl | rfl | rfl | rfl | rfl | rfl | rfl | rfl | rfl | rfl | rfl <;> exact ⟨_, rfl⟩

theorem wM (l : List DG) (h : l.length ≤ 12) (k : Nat) (hk : 400 < k) : ∃ r, qJ.f k l = some r ∧ r.Pairwise leD ∧ r.Perm l := by
 obtain ⟨k, rfl⟩ : ∃ q, k = q + 1 := ⟨k - 1, by omega⟩;obtain ⟨q, hq⟩ := len12 k l.length h;have w : wrap64 (0 + 1) = 1 := (by unfold wrap64; omega);unfold qJ.f yx.f;rw [hq];simp only [Option.bind_some];rw [if_pos (by omega)];unfold qm.f;rw [w];cases l with
 | nil =>
  refine ⟨[], ?_, List.Pairwise.nil, List.Perm.refl _⟩;rfl
 | cons d C =>
  obtain ⟨r, g1, g2, g3⟩ := ins_l0 (C.length + 1) h C [d] (k + 1) (by simp) (by simp) (by simp; omega) (by simp at h; omega);refine ⟨r, ?_, g2, g3⟩;have e : qm.l0 (k + 1) (d :: C) 0 ((d :: C).length : Int) 1 = some r := g1;rw [e];rfl


def uM (τ : Int → Int) (d : DG) : DG := ⟨min (τ d.f0) (τ d.f1), max (τ d.f0) (τ d.f1)⟩
theorem poMap_rounds (N : List Int) (l : List DG) (hl : l.length ≤ 100) (hd : ∀ d ∈ l, 0 ≤ d.f0 ∧ d.f0 < (N.length : Int) ∧ 0 ≤ d.f1 ∧ d.f1 < (N.length : Int)) (e : Nat) : ∀ (i k : Nat) (acc : List DG), i + e = l.length → acc.length = i → e < k →
  zV.l0 k N acc l (l.length : Int) (i : Int) = (qC.f (k - e - 1) (acc ++ (l.drop i).map (uM (rd N)))).bind fun t => some t := by
 induction e with
 | zero =>
  intro i k acc hi hacc hk;obtain ⟨k, rfl⟩ : ∃ q, k = q + 1 := ⟨k - 1, by omega⟩;simp only [zV.l0];rw [if_neg (by omega), List.drop_of_length_le (by omega), List.map_nil, List.append_nil];rfl
 | succ e ih =>
  intro i k acc hi hacc hk;obtain ⟨k, rfl⟩ : ∃ q, k = q + 1 := ⟨k - 1, by omega⟩
  have hm : rD l i ∈ l := by
   have : rD l i ∈ l.drop i := by
    rw [uU l i (by omega)];exact List.mem_cons_self ..
   exact List.mem_of_mem_drop this
  have hok := hd _ hm;simp only [zV.l0];rw [if_pos (by omega), if_pos (by omega), if_pos (by omega), if_pos hok.1, if_pos hok.2.1, if_pos hok.2.2.1, if_pos hok.2.2.2, least_tells, most_tells];simp only [Option.bind_some];rw [if_pos (by omega), zK i (by omega), uU l i (by omega), List.map_cons, show k + 1 - (e + 1) - 1 = k - e - 1 by omega, ih (i + 1) k _ (by omega) (by rw [List.length_append, List.length_singleton]; omega) (by omega)];simp [uM]
theorem Q7 (N : List Int) (l : List DG) (hl : l.length ≤ 100) (hd : ∀ d ∈ l, 0 ≤ d.f0 ∧ d.f0 < (N.length : Int) ∧ 0 ≤ d.f1 ∧ d.f1 < (N.length : Int)) (k : Nat) (hk : 11200 < k) : ∃ r, zV.f k l N = some r ∧ r.Pairwise leD ∧ r.Perm (l.map (uM (rd N))) := by
 have h := poMap_rounds N l hl hd l.length 0 k [] (by omega) rfl (by omega);rw [List.drop_zero, List.nil_append] at h;obtain ⟨r, h1, h2, h3⟩ := Zz (l.map (uM (rd N))) (by rw [List.length_map]; exact hl) (k - l.length - 1) (by omega);refine ⟨r, ?_, h2, h3⟩;unfold zV.f;rw [show ((0 : Nat) : Int) = 0 from rfl] at h;rw [h, h1];rfl

theorem rd_app (l : List Int) (v i : Int) (hi : 0 ≤ i) (h : i ≤ (l.length : Int)) : rd (l ++ [v]) i = if i = (l.length : Int) then v else rd l i := by
 unfold rd;rw [List.getD_eq_getElem?_getD, List.getD_eq_getElem?_getD];by_cases e : i = (l.length : Int)
 ·rw [if_pos e, e, Int.toNat_natCast];simp
 ·rw [if_neg e, List.getElem?_append_left (by omega)]

theorem turn_rounds (n K : Int) (hn : 3 ≤ n ∧ n ≤ 12) (l : List DG) (e : Nat) : ∀ (i : Nat) (acc : List Int), (i : Int) + e = n → acc.length = i → (∀ j : Int, 0 ≤ j → j < (i : Int) → rd acc j = Int.tmod (wrap64 (j + K)) n) →
  ∃ N : List Int, (N.length : Int) = n ∧ (∀ j : Int, 0 ≤ j → j < n → rd N j = Int.tmod (wrap64 (j + K)) n) ∧ ∀ k, e < k → zx.l0 k n l K acc (i : Int) = (zV.f (k - e - 1) l N).bind fun t => some t := by
 induction e with
 | zero =>
  intro i acc hi hacc h;refine ⟨acc, by omega, fun j j1 j2 => h j j1 (by omega), fun k hk => ?_⟩;obtain ⟨k, rfl⟩ : ∃ q, k = q + 1 := ⟨k - 1, by omega⟩;simp only [zx.l0];rw [if_neg (by omega)];rfl
 | succ e ih =>
  intro i acc hi hacc h
  obtain ⟨N, h1, h2, h3⟩ := ih (i + 1) (acc ++ [Int.tmod (wrap64 ((i : Int) + K)) n]) (by omega) (by rw [List.length_append, List.length_singleton]; omega) (by
   intro j j1 j2;rw [rd_app _ _ _ j1 (by omega)];by_cases e0 : j = (acc.length : Int)
   ·rw [if_pos e0, show (i : Int) = j by omega]
   ·rw [if_neg e0];exact h j j1 (by omega))
  refine ⟨N, h1, h2, fun k hk => ?_⟩;obtain ⟨k, rfl⟩ : ∃ q, k = q + 1 := ⟨k - 1, by omega⟩;simp only [zx.l0];rw [if_pos (by omega), if_neg (by omega), if_pos (by omega), zK i (by omega), show k + 1 - (e + 1) - 1 = k - e - 1 by omega];exact h3 k (by omega)
theorem renamed_rounds (n K : Int) (hn : 3 ≤ n ∧ n ≤ 12) (l : List DG) (hl : l.length ≤ 12) (e : Nat) : ∀ (i k : Nat) (acc : List DG), i + e = l.length → acc.length = i → e < k →
  qZ.l0 k acc l (l.length : Int) (i : Int) K n = (qJ.f (k - e - 1) (acc ++ (l.drop i).map (uM fun c => Int.tmod (wrap64 (c + K)) n))).bind fun t => some t := by
 induction e with
 | zero =>
  intro i k acc hi hacc hk;obtain ⟨k, rfl⟩ : ∃ q, k = q + 1 := ⟨k - 1, by omega⟩;simp only [qZ.l0];rw [if_neg (by omega), List.drop_of_length_le (by omega), List.map_nil, List.append_nil];rfl
 | succ e ih =>
  intro i k acc hi hacc hk;obtain ⟨k, rfl⟩ : ∃ q, k = q + 1 := ⟨k - 1, by omega⟩;(have m1 : ∀ a b : Int, mn a b = min a b := fun a b => by unfold mn; split <;> omega);have m2 : ∀ a b : Int, mx a b = max a b := fun a b => by unfold mx; split <;> omega
  have t1 : ∀ c : Int, vD.f c K n = some (Int.tmod (wrap64 (c + K)) n) := by
   intro c;unfold vD.f;rw [if_neg (by omega)]
  simp only [qZ.l0, t1, m1, m2];rw [if_pos (by omega), if_pos (by omega), if_pos (by omega)];simp only [Option.bind_some];rw [if_pos (by omega), zK i (by omega), uU l i (by omega), List.map_cons, show k + 1 - (e + 1) - 1 = k - e - 1 by omega, ih (i + 1) k _ (by omega) (by rw [List.length_append, List.length_singleton]; omega) (by omega)];simp [uM]

/-- Its diagonals have corners. -/
def Ins (n : Int) (l : List DG) : Prop := l.length ≤ 12 ∧ ∀ d ∈ l, 0 ≤ d.f0 ∧ d.f0 ≤ n - 1 ∧ 0 ≤ d.f1 ∧ d.f1 ≤ n - 1
theorem tmod_in (n K c : Int) (hn : 3 ≤ n ∧ n ≤ 12) (hK : 0 ≤ K ∧ K ≤ n - 1) (hc : 0 ≤ c ∧ c ≤ n - 1) : 0 ≤ Int.tmod (wrap64 (c + K)) n ∧ Int.tmod (wrap64 (c + K)) n ≤ n - 1 := by
 have w : wrap64 (c + K) = c + K := (by unfold wrap64; omega);rw [w, Int.tmod_eq_emod_of_nonneg (by omega)];have h1 := Int.emod_nonneg (c + K) (show n ≠ 0 by omega);have h2 := Int.emod_lt_of_pos (c + K) (show 0 < n by omega);omega
theorem ins_map {n : Int} {l r : List DG} (h : Ins n l) (τ : Int → Int) (hτ : ∀ c, 0 ≤ c → c ≤ n - 1 → 0 ≤ τ c ∧ τ c ≤ n - 1) (hp : r.Perm (l.map (uM τ))) : Ins n r := by
 refine ⟨by rw [hp.length_eq, List.length_map]; exact h.1, fun d hd => ?_⟩;obtain ⟨e, he, rfl⟩ := List.mem_map.1 (hp.subset hd);have h1 := h.2 e he;have h2 := hτ e.f0 h1.1 h1.2.1;have h3 := hτ e.f1 h1.2.2.1 h1.2.2.2;unfold uM;simp only;omega
theorem turn_tells (n K : Int) (hn : 3 ≤ n ∧ n ≤ 12) (hK : 0 ≤ K ∧ K ≤ n - 1) (l : List DG) (hl : Ins n l) : ∃ r, Ins n r ∧ r.length = l.length ∧ r.Pairwise leD ∧ r.Perm (l.map (uM fun c => Int.tmod (wrap64 (c + K)) n)) ∧ ∀ k, 20050 < k → zx.f k n l K = some r ∧ jU.f k n l K = some r := by
 have hlen := hl.1;obtain ⟨N, n1, n2, n3⟩ := turn_rounds n K hn l n.toNat 0 [] (by omega) rfl (by omega);have hin : ∀ d ∈ l, 0 ≤ d.f0 ∧ d.f0 < (N.length : Int) ∧ 0 ≤ d.f1 ∧ d.f1 < (N.length : Int) := fun d hd => by have := hl.2 d hd; omega
 have hmap : l.map (uM (rd N)) = l.map (uM fun c => Int.tmod (wrap64 (c + K)) n) := by
  apply List.map_congr_left;intro d hd;have := hl.2 d hd;unfold uM;rw [n2 d.f0 (by omega) (by omega), n2 d.f1 (by omega) (by omega)]
 obtain ⟨r, _, r1, r2⟩ := Q7 N l (by omega) hin 20000 (by omega);rw [hmap] at r2;refine ⟨r, ins_map hl _ (fun c c0 c1 => tmod_in n K c hn hK ⟨c0, c1⟩) r2, by rw [r2.length_eq, List.length_map], r1, r2, fun k hk => ⟨?_, ?_⟩⟩
 ·obtain ⟨r', q1, q2, q3⟩ := Q7 N l (by omega) hin (k - n.toNat - 1) (by omega);rw [hmap] at q3;have er : r' = r := uI (q3.trans r2.symm) q2 r1;have h3 := n3 k (by omega);rw [show ((0 : Nat) : Int) = 0 from rfl, q1, er, Option.bind_some] at h3;exact h3
 ·have h3 := renamed_rounds n K hn l (by omega) l.length 0 k [] (by omega) rfl (by omega);obtain ⟨r', q1, q2, q3⟩ := wM ((l.map (uM fun c => Int.tmod (wrap64 (c + K)) n))) (by rw [List.length_map]; omega) (k - l.length - 1) (by omega);have er : r' = r := uI (q3.trans r2.symm) q2 r1;rw [show ((0 : Nat) : Int) = 0 from rfl, List.drop_zero, List.nil_append, q1, er, Option.bind_some] at h3;unfold jU.f qZ.f;rw [h3, Option.bind_some]

theorem mirror_rounds (n : Int) (hn : 3 ≤ n ∧ n ≤ 12) (l : List DG) (e : Nat) : ∀ (i : Nat) (acc : List Int), (i : Int) + e = n → acc.length = i → (∀ j : Int, 0 ≤ j → j < (i : Int) → rd acc j = n - 1 - j) →
  ∃ N : List Int, (N.length : Int) = n ∧ (∀ j : Int, 0 ≤ j → j < n → rd N j = n - 1 - j) ∧ ∀ k, e < k → zm.l0 k n l acc (i : Int) = (zV.f (k - e - 1) l N).bind fun t => some t := by
 induction e with
 | zero =>
  intro i acc hi hacc h;refine ⟨acc, by omega, fun j j1 j2 => h j j1 (by omega), fun k hk => ?_⟩;obtain ⟨k, rfl⟩ : ∃ q, k = q + 1 := ⟨k - 1, by omega⟩;simp only [zm.l0];rw [if_neg (by omega)];rfl
 | succ e ih =>
  intro i acc hi hacc h
  obtain ⟨N, h1, h2, h3⟩ := ih (i + 1) (acc ++ [n - 1 - (i : Int)]) (by omega) (by rw [List.length_append, List.length_singleton]; omega) (by
   intro j j1 j2;rw [rd_app _ _ _ j1 (by omega)];by_cases e0 : j = (acc.length : Int)
   ·rw [if_pos e0, show (i : Int) = j by omega]
   ·rw [if_neg e0];exact h j j1 (by omega))
  refine ⟨N, h1, h2, fun k hk => ?_⟩;obtain ⟨k, rfl⟩ : ∃ q, k = q + 1 := ⟨k - 1, by omega⟩;have w1 : wrap64 (n - 1) = n - 1 := (by unfold wrap64; omega);have w2 : wrap64 (n - 1 - (i : Int)) = n - 1 - (i : Int) := (by unfold wrap64; omega);simp only [zm.l0, w1, w2];rw [if_pos (by omega), if_pos (by omega), zK i (by omega), show k + 1 - (e + 1) - 1 = k - e - 1 by omega];exact h3 k (by omega)
theorem renamedM_rounds (n : Int) (hn : 3 ≤ n ∧ n ≤ 12) (l : List DG) (hl : Ins n l) (e : Nat) : ∀ (i k : Nat) (acc : List DG), i + e = l.length → acc.length = i → e < k →
  zb.l0 k acc l (l.length : Int) (i : Int) n = (qJ.f (k - e - 1) (acc ++ (l.drop i).map (uM fun c => n - 1 - c))).bind fun t => some t := by
 have hlen := hl.1
 induction e with
 | zero =>
  intro i k acc hi hacc hk;obtain ⟨k, rfl⟩ : ∃ q, k = q + 1 := ⟨k - 1, by omega⟩;simp only [zb.l0];rw [if_neg (by omega), List.drop_of_length_le (by omega), List.map_nil, List.append_nil];rfl
 | succ e ih =>
  intro i k acc hi hacc hk;obtain ⟨k, rfl⟩ : ∃ q, k = q + 1 := ⟨k - 1, by omega⟩;(have m1 : ∀ a b : Int, mn a b = min a b := fun a b => by unfold mn; split <;> omega);have m2 : ∀ a b : Int, mx a b = max a b := fun a b => by unfold mx; split <;> omega
  have hm : rD l i ∈ l := by
   have : rD l i ∈ l.drop i := by
    rw [uU l i (by omega)];exact List.mem_cons_self ..
   exact List.mem_of_mem_drop this
  have hx := hl.2 _ hm
  have t1 : ∀ c : Int, 0 ≤ c → c ≤ n - 1 → y8.f c n = some (n - 1 - c) := by
   intro c c0 c1;have w1 : wrap64 (n - 1) = n - 1 := (by unfold wrap64; omega);have w2 : wrap64 (n - 1 - c) = n - 1 - c := (by unfold wrap64; omega);unfold y8.f;rw [w1, w2]
  simp only [zb.l0, m1, m2];rw [if_pos (by omega), if_pos (by omega), if_pos (by omega), t1 _ hx.1 hx.2.1, t1 _ hx.2.2.1 hx.2.2.2];simp only [Option.bind_some];rw [if_pos (by omega), zK i (by omega), uU l i (by omega), List.map_cons, show k + 1 - (e + 1) - 1 = k - e - 1 by omega, ih (i + 1) k _ (by omega) (by rw [List.length_append, List.length_singleton]; omega) (by omega)];simp [uM]
theorem mirror_tells (n : Int) (hn : 3 ≤ n ∧ n ≤ 12) (l : List DG) (hl : Ins n l) : ∃ r, Ins n r ∧ r.length = l.length ∧ r.Pairwise leD ∧ r.Perm (l.map (uM fun c => n - 1 - c)) ∧ ∀ k, 20050 < k → zm.f k n l = some r ∧ jN.f k n l = some r := by
 have hlen := hl.1;obtain ⟨N, n1, n2, n3⟩ := mirror_rounds n hn l n.toNat 0 [] (by omega) rfl (by omega);have hin : ∀ d ∈ l, 0 ≤ d.f0 ∧ d.f0 < (N.length : Int) ∧ 0 ≤ d.f1 ∧ d.f1 < (N.length : Int) := fun d hd => by have := hl.2 d hd; omega
 have hmap : l.map (uM (rd N)) = l.map (uM fun c => n - 1 - c) := by
  apply List.map_congr_left;intro d hd;have := hl.2 d hd;unfold uM;rw [n2 d.f0 (by omega) (by omega), n2 d.f1 (by omega) (by omega)]
 obtain ⟨r, _, r1, r2⟩ := Q7 N l (by omega) hin 20000 (by omega);rw [hmap] at r2;refine ⟨r, ins_map hl _ (fun c c0 c1 => by omega) r2, by rw [r2.length_eq, List.length_map], r1, r2, fun k hk => ⟨?_, ?_⟩⟩
 ·obtain ⟨r', q1, q2, q3⟩ := Q7 N l (by omega) hin (k - n.toNat - 1) (by omega);rw [hmap] at q3;have er : r' = r := uI (q3.trans r2.symm) q2 r1;have h3 := n3 k (by omega);rw [show ((0 : Nat) : Int) = 0 from rfl, q1, er, Option.bind_some] at h3;exact h3
 ·have h3 := renamedM_rounds n hn l hl l.length 0 k [] (by omega) rfl (by omega);obtain ⟨r', q1, q2, q3⟩ := wM (l.map (uM fun c => n - 1 - c)) (by rw [List.length_map]; omega) (k - l.length - 1) (by omega);have er : r' = r := uI (q3.trans r2.symm) q2 r1;rw [show ((0 : Nat) : Int) = 0 from rfl, List.drop_zero, List.nil_append, q1, er, Option.bind_some] at h3;unfold jN.f zb.f;rw [h3, Option.bind_some]

theorem Jz (n : Int) (l y x19 : List DG) (x20 x21 c d : Int) (hy : y.length ≤ 4611686018427387904) (e : Nat) : ∀ (m k : Nat), m + e = y.length → e < k →
  qL.l1 k n l x19 x20 x21 y (y.length : Int) (m : Int) c d = if (y.drop m).any (fun z => uS c d z.f0 z.f1) = true then some false else qL.l0 (k - e - 1) n l x19 x20 (wrap64 (x21 + 1)) := by
 induction e with
 | zero =>
  intro m k hm hk;obtain ⟨k, rfl⟩ : ∃ q, k = q + 1 := ⟨k - 1, by omega⟩;simp only [qL.l1];rw [if_neg (by omega), List.drop_of_length_le (by omega)];simp
 | succ e ih =>
  intro m k hm hk;obtain ⟨k, rfl⟩ : ∃ q, k = q + 1 := ⟨k - 1, by omega⟩;simp only [qL.l1];rw [if_pos (by omega), if_pos (by omega), if_pos (by omega), poCross_tells, Option.bind_some, zK m (by omega), ih (m + 1) k (by omega) (by omega), Jb _ y m (by omega)];rw [show k + 1 - (e + 1) - 1 = k - e - 1 by omega];cases uS c d (rD y m).f0 (rD y m).f1 <;> simp
theorem Jh (n : Int) (hn : 3 ≤ n ∧ n ≤ 12) (l : List DG) (hl : l.length ≤ 4611686018427387904) (d : Nat) : ∀ (i k : Nat), i + d = l.length → d * (l.length + 3) < k →
  qL.l0 k n l l (l.length : Int) (i : Int) = some ((List.range' i d).all (stepD n l)) := by
 induction d with
 | zero =>
  intro i k hi hk;obtain ⟨k, rfl⟩ : ∃ q, k = q + 1 := ⟨k - 1, by omega⟩;simp only [qL.l0];rw [if_neg (by omega)];rfl
 | succ d ih =>
  intro i k hi hk;have hk2 : d * (l.length + 3) + (l.length + 3) < k := (by rw [← Nat.succ_mul]; exact hk);obtain ⟨k, rfl⟩ : ∃ q, k = q + 1 := ⟨k - 1, by omega⟩;have hj : ∀ b : Bool, qL.j2 k n l (i : Int) l (l.length : Int) (i : Int) b (rD l i).f0 (rD l i).f1 =
    if b = true then some false else if (l.take i).any (fun z => uS (rD l i).f0 (rD l i).f1 z.f0 z.f1) = true then some false else some ((List.range' (i + 1) d).all (stepD n l)) := by
   intro b;obtain ⟨k, rfl⟩ : ∃ q, k = q + 1 := ⟨k - 1, by omega⟩;have ht : (l.take i).length = i := (by rw [List.length_take]; omega);have h1 := Jz n l (l.take i) l (l.length : Int) (i : Int) (rD l i).f0 (rD l i).f1 (by omega) i 0 k (by omega) (by omega);rw [List.drop_zero, zK i (by omega), ih (i + 1) _ (by omega) (by omega)] at h1;simp only [qL.j2, Int.toNat_natCast, Option.bind_some];cases b
   ·rw [if_neg (by simp), if_pos (by omega), if_pos (by omega), if_neg (by simp)];exact h1
   ·rfl
  simp only [qL.l0];rw [if_pos (by omega), if_pos (by omega), if_pos (by omega), poDiagonal_tells n _ _ hn, Option.bind_some, List.range'_succ, List.all_cons, hj, hj, Qf n l i];cases QL n (rD l i).f0 (rD l i).f1 with
  | false => simp
  | true =>
   rw [if_pos rfl];by_cases h0 : i = 0
   ·subst h0;rw [if_neg (by omega)];cases (l.take 0).any (fun z => uS (rD l 0).f0 (rD l 0).f1 z.f0 z.f1) <;> simp
   ·have b0 : (i == 0) = false := (by simp [h0]);rw [if_pos (by omega), wrap_pred i (by omega) (by omega), if_pos (by omega), if_pos (by omega), QZ, Option.bind_some, hj, b0];cases kF (rD l (i - 1)).f0 (rD l (i - 1)).f1 (rD l i).f0 (rD l i).f1 <;> cases (l.take i).any (fun z => uS (rD l i).f0 (rD l i).f1 z.f0 z.f1) <;> simp

theorem poGood_tells (n : Int) (l : List DG) (hl : l.length ≤ 4611686018427387904) : Ev (fun k => qL.f k n l) (vE n l) := by
 refine ⟨l.length * (l.length + 3) + 2, fun k hk => ?_⟩;obtain ⟨k, rfl⟩ : ∃ q, k = q + 1 := ⟨k - 1, by omega⟩;show qL.f (k + 1) n l = _;unfold qL.f vE goodD;rw [Jl, Option.bind_some];by_cases hn : 3 ≤ n ∧ n ≤ 12
 ·have w : wrap64 (n - 3) = n - 3 := (by unfold wrap64; omega);have h := Jh n hn l hl l.length 0 k (by omega) (by omega);rw [show ((0 : Nat) : Int) = 0 from rfl] at h;rw [decide_eq_true hn, if_pos rfl, w];simp only [qL.j0, h];by_cases hc : (l.length : Int) = n - 3
  ·rw [decide_eq_true hc, hc];simp
  ·rw [decide_eq_false hc];simp [hc]
 ·rw [decide_eq_false hn];rfl

theorem doCross_tells (a b c d : Int) : xK.f a b c d = some (uS a b c d) := by
 unfold xK.f uS;(repeat' split);all_goals congr 1; rw [Bool.eq_iff_iff]; simp only [Bool.or_eq_true, decide_eq_true_eq, Bool.false_eq_true, false_iff, true_iff]; omega
theorem kT (n : Int) : yB.f n = some (decide (3 ≤ n ∧ n ≤ 12)) := by
 unfold yB.f;rw [yF];rfl
theorem Qj (l : List DG) (c d : Int) (hl : l.length ≤ 4611686018427387904) (e : Nat) : ∀ (i k : Nat), i + e = l.length → e < k →
  ∃ r, zI.l0 k l (l.length : Int) (i : Int) c d = some r ∧ (r ≥ 0 ↔ (l.drop i).any (fun z => uS c d z.f0 z.f1) = true) := by
 induction e with
 | zero =>
  intro i k hi hk;obtain ⟨k, rfl⟩ : ∃ q, k = q + 1 := ⟨k - 1, by omega⟩;simp only [zI.l0];rw [if_neg (by omega), List.drop_of_length_le (by omega)];exact ⟨-1, rfl, by simp⟩
 | succ e ih =>
  intro i k hi hk;obtain ⟨k, rfl⟩ : ∃ q, k = q + 1 := ⟨k - 1, by omega⟩;obtain ⟨r, hr, hr2⟩ := ih (i + 1) k (by omega) (by omega);simp only [zI.l0, jF.f];rw [if_pos (by omega), if_pos (by omega), if_pos (by omega), doCross_tells, zK i (by omega), hr, Jb _ l i (by omega)];simp only [Option.bind_some];cases hc : uS c d (rD l i).f0 (rD l i).f1 with
  | true => exact ⟨i, rfl, by simp⟩
  | false => exact ⟨r, rfl, by rw [Bool.false_or]; exact hr2⟩
theorem Qt (l : List DG) (c d : Int) (hl : l.length ≤ 4611686018427387904) (k : Nat) (hk : l.length < k) : jB.f k l c d = some (l.any fun z => uS c d z.f0 z.f1) := by
 obtain ⟨r, hr, hr2⟩ := Qj l c d hl l.length 0 k (by omega) hk;unfold jB.f zI.f;rw [show ((0 : Nat) : Int) = 0 from rfl] at hr;rw [hr, Option.bind_some];congr 1;rw [Bool.eq_iff_iff, decide_eq_true_iff, hr2, List.drop_zero]

theorem Qc (n : Int) (hn : 3 ≤ n ∧ n ≤ 12) (l : List DG) (hl : l.length ≤ 4611686018427387904) (d : Nat) : ∀ (i k : Nat), i + d = l.length → d + l.length + 3 < k →
  qi.l0 k n l l (l.length : Int) (i : Int) = some ((List.range' i d).all (stepD n l)) := by
 induction d with
 | zero =>
  intro i k hi hk;obtain ⟨k, rfl⟩ : ∃ q, k = q + 1 := ⟨k - 1, by omega⟩;simp only [qi.l0];rw [if_neg (by omega)];rfl
 | succ d ih =>
  intro i k hi hk;obtain ⟨k, rfl⟩ : ∃ q, k = q + 1 := ⟨k - 1, by omega⟩;have ht : (l.take i).length = i := (by rw [List.length_take]; omega);have hc : jB.f k (l.take i) (rD l i).f0 (rD l i).f1 = some ((l.take i).any fun z => uS (rD l i).f0 (rD l i).f1 z.f0 z.f1) := Qt _ _ _ (by omega) k (by omega);simp only [qi.l0, Int.toNat_natCast];rw [if_pos (by omega), if_pos (by omega), if_pos (by omega), QJ n _ _ hn, Option.bind_some, hc, Option.bind_some, zK i (by omega), ih (i + 1) k (by omega) (by omega), List.range'_succ, List.all_cons, Qf n l i];cases QL n (rD l i).f0 (rD l i).f1 with
  | false => simp
  | true =>
   rw [if_pos rfl];by_cases h0 : i = 0
   ·subst h0;rw [if_neg (by omega), if_pos (by omega)];cases (l.take 0).any (fun z => uS (rD l 0).f0 (rD l 0).f1 z.f0 z.f1) <;> simp
   ·have b0 : (i == 0) = false := (by simp [h0]);rw [if_pos (by omega), wrap_pred i (by omega) (by omega), if_pos (by omega), if_pos (by omega), uC _ _ _ _ k (by omega), Option.bind_some, b0];have hcm := cmpD_nonneg (rD l (i - 1)).f0 (rD l (i - 1)).f1 (rD l i).f0 (rD l i).f1;cases hs : kF (rD l (i - 1)).f0 (rD l (i - 1)).f1 (rD l i).f0 (rD l i).f1 with
    | false => rw [if_pos (hcm.2 hs)]; simp
    | true =>
     rw [if_neg (fun h => by rw [hcm.1 h] at hs; cases hs), if_pos (by omega)];cases (l.take i).any (fun z => uS (rD l i).f0 (rD l i).f1 z.f0 z.f1) <;> simp

theorem isTri_tells (n : Int) (l : List DG) (hl : l.length ≤ 4611686018427387904) : Ev (fun k => qi.f k n l) (vE n l) := by
 refine ⟨l.length + l.length + 5, fun k hk => ?_⟩;obtain ⟨k, rfl⟩ : ∃ q, k = q + 1 := ⟨k - 1, by omega⟩;show qi.f (k + 1) n l = _;unfold qi.f vE goodD;rw [kT, Option.bind_some];by_cases hn : 3 ≤ n ∧ n ≤ 12
 ·have w : wrap64 (n - 3) = n - 3 := (by unfold wrap64; omega);have h := Qc n hn l hl l.length 0 k (by omega) (by omega);rw [show ((0 : Nat) : Int) = 0 from rfl] at h;rw [decide_eq_true hn, if_pos rfl, w];simp only [qi.j0, h];by_cases hc : (l.length : Int) = n - 3
  ·rw [decide_eq_true hc, hc];simp
  ·rw [decide_eq_false hc];simp [hc]
 ·rw [decide_eq_false hn];simp [qi.j0]

theorem good_tri (n : Int) (l : List DG) (T : Tri n l) : goodD n l = true := by
 unfold goodD;rw [List.all_eq_true];intro j hj;have hj2 := (List.mem_range'_1.1 hj).2;rw [Nat.zero_add] at hj2;rw [Qf, rD_get l j hj2];have hok := T.ok l[j] (List.getElem_mem _);rw [Bool.and_eq_true, Bool.and_eq_true];refine ⟨?_, ?_, ?_⟩
 ·unfold QL;rw [decide_eq_true_eq];omega
 ·by_cases h0 : j = 0
  ·rw [Bool.or_eq_true];left;rw [beq_iff_eq];exact h0
  ·rw [Bool.or_eq_true];right;rw [rD_get l (j - 1) (by omega)];have := List.pairwise_iff_getElem.1 T.sorted (j - 1) j (by omega) hj2 (by omega);unfold kF;rw [decide_eq_true_eq];exact this
 ·rw [Bool.not_eq_true', List.any_eq_false];intro e he;have hel : e ∈ l := List.mem_of_mem_take he;have h1 := T.nc l[j] (List.getElem_mem _) e hel;have h2 := T.nc e hel l[j] (List.getElem_mem _);simp only [uS, Bool.or_eq_true, decide_eq_true_eq];omega

def Z8 (x y : DG) : Bool := decide (x.f0 < y.f0 ∨ (x.f0 = y.f0 ∧ x.f1 < y.f1))
def insD (d : DG) : List DG → List DG
 | [] => [d]
 | x :: l => if Z8 d x then d :: x :: l else x :: insD d l
def Qi : List DG → List DG
 | [] => []
 | d :: l => insD d (Qi l)
theorem insD_perm (d : DG) : ∀ l, (insD d l).Perm (d :: l)
 | [] => List.Perm.refl _
 | x :: l => by
  unfold insD;split
  ·exact List.Perm.refl _
  ·exact (List.Perm.cons x (insD_perm d l)).trans (List.Perm.swap d x l)
theorem wJ : ∀ l, (Qi l).Perm l
 | [] => List.Perm.refl _
 | d :: l => (insD_perm d _).trans (List.Perm.cons d (wJ l))
theorem insD_sorted (d : DG) : ∀ l : List DG, l.Pairwise leD → (insD d l).Pairwise leD
 | [], _ => List.pairwise_singleton ..
 | x :: l, h => by
  obtain ⟨h1, h2⟩ := List.pairwise_cons.1 h;unfold insD;split
  ·rename_i hd
   have hdx : leD d x := by
    simp only [Z8, decide_eq_true_eq] at hd;unfold leD;omega
   refine List.pairwise_cons.2 ⟨fun y hy => ?_, h⟩;rcases List.mem_cons.1 hy with e | e
   ·rw [e]; exact hdx
   ·exact leD_trans hdx (h1 y e)
  ·rename_i hd
   have hxd : leD x d := by
    simp only [Z8, decide_eq_true_eq] at hd;unfold leD;omega
   refine List.pairwise_cons.2 ⟨fun y hy => ?_, insD_sorted d l h2⟩;rcases List.mem_cons.1 ((insD_perm d l).subset hy) with e | e
   ·rw [e]; exact hxd
   ·exact h1 y e
theorem wP : ∀ l, (Qi l).Pairwise leD
 | [] => List.Pairwise.nil
 | d :: l => insD_sorted d _ (wP l)
theorem sortD_is {l r : List DG} (hp : r.Perm l) (hs : r.Pairwise leD) : r = Qi l := uI (hp.trans (wJ l).symm) hs (wP l)
theorem sortD_len (l : List DG) : (Qi l).length = l.length := (wJ l).length_eq
/-- Turned by k; mirrored. -/
def xR (n k : Int) (l : List DG) : List DG := Qi (l.map (uM fun c => (c + k) % n))
def wO (n : Int) (l : List DG) : List DG := Qi (l.map (uM fun c => n - 1 - c))
theorem mapT_mapT (f g : Int → Int) (d : DG) : uM f (uM g d) = uM (fun c => f (g c)) d := by
 obtain ⟨a, b⟩ := d;unfold uM;simp only;rcases Int.le_total (g a) (g b) with h | h
 ·rw [Int.min_eq_left h, Int.max_eq_right h]
 ·rw [Int.min_eq_right h, Int.max_eq_left h, Int.min_comm, Int.max_comm]
theorem ZY (f g : Int → Int) (l : List DG) : Qi ((Qi (l.map (uM g))).map (uM f)) = Qi (l.map (uM fun c => f (g c))) := by
 refine uI ?_ (wP _) (wP _);refine (wJ _).trans (((wJ _).map _).trans ?_);rw [List.map_map];refine List.Perm.trans ?_ (wJ _).symm;rw [show (uM f ∘ uM g) = uM fun c => f (g c) from funext fun d => mapT_mapT f g d]
theorem turn_turn (n j k : Int) (l : List DG) : xR n k (xR n j l) = xR n ((j + k) % n) l := by
 unfold xR;rw [ZY];congr 1;refine List.map_congr_left fun d _ => ?_;congr 1
 funext c
 rw [Int.emod_add_emod, Int.add_emod_emod, Int.add_assoc]
/-- Sorted, and the corners are those of the polygon. -/
def Srt (n : Int) (l : List DG) : Prop := l.Pairwise leD ∧ ∀ d ∈ l, 0 ≤ d.f0 ∧ d.f0 ≤ d.f1 ∧ d.f1 ≤ n - 1
theorem map_self {n : Int} {l : List DG} (h : Srt n l) (f : Int → Int) (hf : ∀ c, 0 ≤ c → c ≤ n - 1 → f c = c) : Qi (l.map (uM f)) = l := by
 have e : l.map (uM f) = l := by
  conv => rhs; rw [← List.map_id l]
  refine List.map_congr_left fun d hd => ?_;have h1 := h.2 d hd;obtain ⟨a, b⟩ := d;simp only at h1;unfold uM;simp only [id];rw [hf a (by omega) (by omega), hf b (by omega) (by omega), Int.min_eq_left h1.2.1, Int.max_eq_right h1.2.1]
 rw [e];exact (sortD_is (List.Perm.refl _) h.1).symm
theorem turn_zero {n : Int} {l : List DG} (h : Srt n l) : xR n 0 l = l := map_self h _ fun c h0 h1 => by rw [Int.add_zero]; exact Int.emod_eq_of_lt h0 (by omega)
theorem mir_mir {n : Int} {l : List DG} (h : Srt n l) : wO n (wO n l) = l := by
 unfold wO;rw [ZY];exact map_self h _ fun c _ _ => by omega
theorem Qh (n k : Int) (l : List DG) : (xR n k l).length = l.length := by unfold xR; rw [sortD_len, List.length_map]
theorem Z7 (n : Int) (l : List DG) : (wO n l).length = l.length := by unfold wO; rw [sortD_len, List.length_map]
theorem srt_map {n : Int} {l : List DG} (h : Srt n l) (f : Int → Int) (hf : ∀ c, 0 ≤ c → c ≤ n - 1 → 0 ≤ f c ∧ f c ≤ n - 1) : Srt n (Qi (l.map (uM f))) := by
 refine ⟨wP _, fun d hd => ?_⟩;obtain ⟨e, he, rfl⟩ := List.mem_map.1 ((wJ _).subset hd);have h1 := h.2 e he;have h2 := hf e.f0 (by omega) (by omega);have h3 := hf e.f1 (by omega) (by omega);unfold uM;simp only;omega
theorem srt_turn {n k : Int} {l : List DG} (hn : 0 < n) (h : Srt n l) : Srt n (xR n k l) := srt_map h _ fun c _ _ => ⟨Int.emod_nonneg _ (by omega), by have := Int.emod_lt_of_pos (c + k) hn; omega⟩
theorem srt_mir {n : Int} {l : List DG} (h : Srt n l) : Srt n (wO n l) := srt_map h _ fun c _ _ => by omega
/-- One list comes before another. -/
def uX : List DG → List DG → Bool
 | x :: l, y :: m => if x.f0 = y.f0 ∧ x.f1 = y.f1 then uX l m else Z8 x y
 | _, _ => false
theorem J8 : ∀ l : List DG, uX l l = false
 | [] => rfl
 | x :: l => by unfold uX; rw [if_pos ⟨rfl, rfl⟩]; exact J8 l
theorem QM : ∀ {a b c : List DG}, a.length = b.length → b.length = c.length → uX a b = true → uX b c = true → uX a c = true
 | [], _, _, _, _, h, _ => by simp [uX] at h
 | _ :: _, [], _, h, _, _, _ => by simp at h
 | _ :: _, _ :: _, [], _, h, _, _ => by simp at h
 | x :: a, y :: b, z :: c, h1, h2, h3, h4 => by
  simp only [List.length_cons, Nat.add_right_cancel_iff] at h1 h2;unfold uX at h3 h4 ⊢;by_cases e1 : x.f0 = y.f0 ∧ x.f1 = y.f1
  ·rw [if_pos e1] at h3;by_cases e2 : y.f0 = z.f0 ∧ y.f1 = z.f1
   ·rw [if_pos e2] at h4;rw [if_pos (by omega)];exact QM h1 h2 h3 h4
   ·rw [if_neg e2] at h4;rw [if_neg (by omega)];simp only [Z8, decide_eq_true_eq] at h4 ⊢;omega
  ·rw [if_neg e1] at h3;simp only [Z8, decide_eq_true_eq] at h3;by_cases e2 : y.f0 = z.f0 ∧ y.f1 = z.f1
   ·rw [if_neg (by omega)];simp only [Z8, decide_eq_true_eq];omega
   ·rw [if_neg e2] at h4;simp only [Z8, decide_eq_true_eq] at h4;rw [if_neg (by omega)];simp only [Z8, decide_eq_true_eq];omega
theorem ZQ : ∀ {a b : List DG}, a.length = b.length → uX a b = false → uX b a = false → a = b
 | [], [], _, _, _ => rfl
 | [], _ :: _, h, _, _ => by simp at h
 | _ :: _, [], h, _, _ => by simp at h
 | x :: a, y :: b, h, h1, h2 => by
  simp only [List.length_cons, Nat.add_right_cancel_iff] at h;unfold uX at h1 h2;by_cases e : x.f0 = y.f0 ∧ x.f1 = y.f1
  ·rw [if_pos e] at h1;rw [if_pos (by omega)] at h2;obtain ⟨p, q⟩ := x;obtain ⟨p', q'⟩ := y;simp only at e;rw [e.1, e.2, ZQ h h1 h2]
  ·rw [if_neg e] at h1;rw [if_neg (by omega)] at h2;simp only [Z8, decide_eq_false_iff_not] at h1 h2;omega
/-- The first one of the turned ones, from turn i on. -/
def wZ (n : Int) (l : List DG) : Nat → Nat → List DG → List DG
 | 0, _, best => best
 | e + 1, i, best => wZ n l e (i + 1) (if uX (xR n i l) best = true then xR n i l else best)
def jE (n : Int) (l : List DG) : List DG := wZ n l n.toNat 0 l
theorem leastF_min (n : Int) (l : List DG) (e : Nat) : ∀ (i : Nat) (best : List DG), best.length = l.length →
  (wZ n l e i best).length = l.length ∧ (wZ n l e i best = best ∨ ∃ k, i ≤ k ∧ k < i + e ∧ wZ n l e i best = xR n (k : Nat) l) ∧ uX best (wZ n l e i best) = false ∧ ∀ k, i ≤ k → k < i + e → uX (xR n (k : Nat) l) (wZ n l e i best) = false := by
 induction e with
 | zero => exact fun i best hb => ⟨hb, .inl rfl, J8 _, fun k h1 h2 => by omega⟩
 | succ e ih =>
  intro i best hb;have ht := Qh n (i : Int) l;unfold wZ;by_cases hc : uX (xR n i l) best = true
  ·rw [if_pos hc];obtain ⟨h1, h2, h3, h4⟩ := ih (i + 1) (xR n i l) ht;refine ⟨h1, .inr ?_, ?_, fun k k1 k2 => ?_⟩
   ·rcases h2 with h2 | ⟨k, k1, k2, h2⟩
    ·exact ⟨i, Nat.le_refl _, by omega, h2⟩
    ·exact ⟨k, by omega, by omega, h2⟩
   ·rw [Bool.eq_false_iff];intro h5;have h6 := QM (by omega) (by omega) hc h5;rw [h3] at h6;cases h6
   ·by_cases hk : k = i
    ·rw [hk]; exact h3
    ·exact h4 k (by omega) (by omega)
  ·rw [if_neg hc];obtain ⟨h1, h2, h3, h4⟩ := ih (i + 1) best hb;refine ⟨h1, ?_, h3, fun k k1 k2 => ?_⟩
   ·rcases h2 with h2 | ⟨k, k1, k2, h2⟩
    ·exact .inl h2
    ·exact .inr ⟨k, by omega, by omega, h2⟩
   ·by_cases hk : k = i
    ·rw [hk, Bool.eq_false_iff];intro h5;by_cases h6 : uX best (xR n i l) = true
     ·have h7 := QM (by omega) (by omega) h6 h5;rw [h3] at h7;cases h7
     ·have h7 : xR n i l = best := ZQ (by omega) (by simpa using hc) (by simpa using h6);rw [h7, h3] at h5;cases h5
    ·exact h4 k (by omega) (by omega)
theorem xD (n : Int) (l : List DG) : (jE n l).length = l.length := (leastF_min n l n.toNat 0 l rfl).1
theorem QQ {n : Int} {l : List DG} (hn : 0 < n) (h : Srt n l) : (∃ k : Int, 0 ≤ k ∧ k < n ∧ jE n l = xR n k l) ∧ ∀ k : Int, 0 ≤ k → k < n → uX (xR n k l) (jE n l) = false := by
 obtain ⟨_, h2, h3, h4⟩ := leastF_min n l n.toNat 0 l rfl;refine ⟨?_, fun k k0 k1 => ?_⟩
 ·rcases h2 with h2 | ⟨k, k0, k1, h2⟩
  ·exact ⟨0, by omega, by omega, by rw [turn_zero h]; exact h2⟩
  ·exact ⟨k, by omega, by omega, h2⟩
 ·have h5 := h4 k.toNat (by omega) (by omega);rwa [show ((k.toNat : Nat) : Int) = k by omega] at h5
theorem leastL_not {n : Int} {l : List DG} (hn : 0 < n) (h : Srt n l) : uX l (jE n l) = false := by
 have := (QQ hn h).2 0 (by omega) hn;rwa [turn_zero h] at this
theorem leastL_srt {n : Int} {l : List DG} (hn : 0 < n) (h : Srt n l) : Srt n (jE n l) := by
 obtain ⟨k, _, _, e⟩ := (QQ hn h).1;rw [e];exact srt_turn hn h
/-- The first one of the turned ones is that of each turned one. -/
theorem leastL_turn {n j : Int} {l : List DG} (hn : 0 < n) (h : Srt n l) (hj : 0 ≤ j ∧ j < n) : jE n (xR n j l) = jE n l := by
 have hl := xD n l;have hl2 := xD n (xR n j l);have ht := Qh n j l;obtain ⟨⟨a, a0, a1, ea⟩, ma⟩ := QQ hn h;obtain ⟨⟨b, b0, b1, eb⟩, mb⟩ := QQ hn (srt_turn (k := j) hn h);refine ZQ (by omega) ?_ ?_
 ·rw [eb, turn_turn];exact ma _ (Int.emod_nonneg _ (by omega)) (Int.emod_lt_of_pos _ hn)
 ·have h2 := mb ((a - j) % n) (Int.emod_nonneg _ (by omega)) (Int.emod_lt_of_pos _ hn);rw [turn_turn, show (j + (a - j) % n) % n = a by rw [Int.add_emod_emod, show j + (a - j) = a by omega]; exact Int.emod_eq_of_lt a0 a1] at h2;rw [ea];exact h2
/-- The first one of the class. -/
def uB (n : Int) (l : List DG) : List DG := if uX (jE n (wO n l)) (jE n l) = true then jE n (wO n l) else jE n l
theorem classL_len (n : Int) (l : List DG) : (uB n l).length = l.length := by
 unfold uB;split <;> simp only [xD, Z7]
theorem classL_mir {n : Int} {l : List DG} (h : Srt n l) : uB n (wO n l) = uB n l := by
 unfold uB;rw [mir_mir h];have h1 := xD n l;have h2 := xD n (wO n l);have h3 := Z7 n l;by_cases a : uX (jE n (wO n l)) (jE n l) = true
 ·by_cases b : uX (jE n l) (jE n (wO n l)) = true
  ·have := QM (by omega) (by omega) a b;rw [J8] at this;cases this
  ·rw [if_neg b, if_pos a]
 ·by_cases b : uX (jE n l) (jE n (wO n l)) = true
  ·rw [if_pos b, if_neg a]
  ·rw [if_neg b, if_neg a];exact ZQ (by omega) (by simpa using a) (by simpa using b)
theorem classL_not {n : Int} {l : List DG} : uX (jE n l) (uB n l) = false := by
 unfold uB;split
 ·rename_i h;rw [Bool.eq_false_iff];intro h2;have h1 := xD n l;have h3 := xD n (wO n l);have h4 := Z7 n l;have := QM (by omega) (by omega) h h2;rw [J8] at this;cases this
 ·exact J8 _

/-- What keeps triangulations: corners to corners, one to one, diagonals to diagonals, crossing ones from crossing ones. -/
structure Keeps (n : Int) (f : Int → Int) : Prop where
 ran : ∀ c, 0 ≤ c → c ≤ n - 1 → 0 ≤ f c ∧ f c ≤ n - 1
 inj : ∀ a b, 0 ≤ a → a ≤ n - 1 → 0 ≤ b → b ≤ n - 1 → f a = f b → a = b
 far : ∀ a b, 0 ≤ a → b ≤ n - 1 → 2 ≤ b - a → b - a ≤ n - 2 → (2 ≤ f b - f a ∧ f b - f a ≤ n - 2) ∨ (2 ≤ f a - f b ∧ f a - f b ≤ n - 2)
 nc : ∀ a b c d, 0 ≤ a → a < b → b ≤ n - 1 → 0 ≤ c → c < d → d ≤ n - 1 → ¬ (a < c ∧ c < b ∧ b < d) → ¬ (c < a ∧ a < d ∧ d < b) →
  ¬ (min (f a) (f b) < min (f c) (f d) ∧ min (f c) (f d) < max (f a) (f b) ∧ max (f a) (f b) < max (f c) (f d))
theorem turn_keeps {n k : Int} (hk : 0 ≤ k ∧ k < n) : Keeps n fun c => (c + k) % n := by
 have e : ∀ c, 0 ≤ c → c ≤ n - 1 → ((c + k) % n = c + k ∧ c + k < n) ∨ ((c + k) % n = c + k - n ∧ n ≤ c + k) := by
  intro c h0 h1;by_cases h : c + k < n
  ·exact .inl ⟨Int.emod_eq_of_lt (by omega) h, h⟩
  ·refine .inr ⟨?_, by omega⟩;rw [← Int.emod_eq_of_lt (show 0 ≤ c + k - n by omega) (show c + k - n < n by omega), Int.sub_emod_right]
 refine ⟨fun c h0 h1 => ?_, fun a b a0 a1 b0 b1 h => ?_, fun a b a0 b1 h1 h2 => ?_, fun a b c d a0 ab b1 c0 cd d1 h1 h2 => ?_⟩
 ·have := e c h0 h1;omega
 ·have h1 := e a a0 a1;have h2 := e b b0 b1;omega
 ·have h3 := e a a0 (by omega);have h4 := e b (by omega) b1;omega
 ·have h3 := e a a0 (by omega);have h4 := e b (by omega) b1;have h5 := e c c0 (by omega);have h6 := e d (by omega) d1;rcases h3 with h3 | h3 <;> rcases h4 with h4 | h4 <;> rcases h5 with h5 | h5 <;> rcases h6 with h6 | h6 <;> rw [h3.1, h4.1, h5.1, h6.1] <;> omega
theorem mir_keeps (n : Int) : Keeps n fun c => n - 1 - c :=
 ⟨fun c _ _ => by omega, fun a b _ _ _ _ h => by omega, fun a b _ _ _ _ => by omega, fun a b c d _ _ _ _ _ _ _ _ => by omega⟩
theorem tri_map {n : Int} {l : List DG} (T : Tri n l) {f : Int → Int} (hf : Keeps n f) : Tri n (Qi (l.map (uM f))) := by
 have hp := wJ (l.map (uM f));have hm : ∀ d ∈ Qi (l.map (uM f)), ∃ e ∈ l, uM f e = d := fun d hd => List.mem_map.1 (hp.subset hd);refine ⟨T.n3, by rw [hp.length_eq, List.length_map]; exact T.len, fun d hd => ?_, fun d hd e he => ?_, ?_⟩
 ·obtain ⟨x, hx, rfl⟩ := hm d hd;have h1 := T.ok x hx;have h2 := hf.ran x.f0 (by omega) (by omega);have h3 := hf.ran x.f1 (by omega) (by omega);have h4 := hf.far x.f0 x.f1 (by omega) (by omega) (by omega) (by omega);unfold uM;simp only;omega
 ·obtain ⟨x, hx, rfl⟩ := hm d hd;obtain ⟨y, hy, rfl⟩ := hm e he;have h1 := T.ok x hx;have h2 := T.ok y hy;exact hf.nc x.f0 x.f1 y.f0 y.f1 (by omega) (by omega) (by omega) (by omega) (by omega) (by omega) (T.nc x hx y hy) (T.nc y hy x hx)
 ·have hn : (l.map (uM f)).Nodup := by
   have hl : l.Pairwise fun d e => d ≠ e := T.sorted.imp fun {d e} h he => (by subst he; omega);rw [List.nodup_iff_pairwise_ne, List.pairwise_map];refine List.Pairwise.imp_of_mem (fun {x y} hx hy hxy he => ?_) hl;have h1 := T.ok x hx;have h2 := T.ok y hy;have i1 := hf.inj x.f0 y.f0 (by omega) (by omega) (by omega) (by omega);have i2 := hf.inj x.f0 y.f1 (by omega) (by omega) (by omega) (by omega);have i3 := hf.inj x.f1 y.f0 (by omega) (by omega) (by omega) (by omega);have i4 := hf.inj x.f1 y.f1 (by omega) (by omega) (by omega) (by omega);obtain ⟨a, b⟩ := x;obtain ⟨c, d⟩ := y;unfold uM at he;simp only [S62.mk.injEq] at he h1 h2 i1 i2 i3 i4;have h5 : a = c ∧ b = d := (by omega);exact hxy (by rw [h5.1, h5.2])
  have h2 : (Qi (l.map (uM f))).Pairwise fun d e => d ≠ e := hp.symm.nodup hn;refine ((wP _).and h2).imp fun {x y} h => ?_;obtain ⟨h3, h4⟩ := h;unfold leD at h3;by_cases e : x.f0 = y.f0 ∧ x.f1 = y.f1
  ·exact absurd (by obtain ⟨p, q⟩ := x; obtain ⟨r, s⟩ := y; simp only at e; rw [e.1, e.2]) h4
  ·omega
theorem tri_turn {n k : Int} {l : List DG} (T : Tri n l) (hk : 0 ≤ k ∧ k < n) : Tri n (xR n k l) := tri_map T (turn_keeps hk)
theorem tri_mir {n : Int} {l : List DG} (T : Tri n l) : Tri n (wO n l) := tri_map T (mir_keeps n)
theorem tri_srt {n : Int} {l : List DG} (T : Tri n l) : Srt n l := by
 refine ⟨T.sorted.imp fun {d e} h => ?_, fun d hd => ?_⟩
 ·unfold leD;omega
 ·have := T.ok d hd;omega

/-- The first ones of the classes; how many are first of their turned ones; how many a turn leaves; how many classes are their own mirrors. -/
def xw (n : Int) : List (List DG) := (jZ n).filter fun x => eqL (uB n x) x
def Q9 (n : Int) : Nat := ((jZ n).filter fun x => eqL (jE n x) x).length
def symL (n k : Int) : Nat := ((jZ n).filter fun x => eqL (xR n k x) x).length
def ownL (n : Int) : Nat := ((xw n).filter fun x => eqL (jE n x) (jE n (wO n x))).length
def risL : List (List DG) → Bool
 | a :: b :: r => uX a b && risL (b :: r)
 | _ => true
def sumL (n : Int) (m : Nat) : Nat := (List.range m).foldl (fun (s k : Nat) => s + symL n ((k : Int) + 1)) (jZ n).length
def chkL (n : Int) : Bool := decide ((xw n).length ≤ Q9 n) && decide (Q9 n ≤ 2 * (xw n).length) && (sumL n (n.toNat - 1) == Q9 n * n.toNat) && (Q9 n + ownL n == 2 * (xw n).length) && risL (xw n)

theorem J6 {n : Int} {l : List DG} (T : Tri n l) : Ins n l := ⟨by have := T.Jq; omega, fun d hd => by have := T.ok d hd; omega⟩
theorem turn_is (n K : Int) (hn : 3 ≤ n ∧ n ≤ 12) (hK : 0 ≤ K ∧ K ≤ n - 1) (l : List DG) (hl : Ins n l) : Ins n (xR n K l) ∧ ∀ k, 20050 < k → zx.f k n l K = some (xR n K l) ∧ jU.f k n l K = some (xR n K l) := by
 obtain ⟨r, h1, _, h3, h4, h5⟩ := turn_tells n K hn hK l hl
 have e : r = xR n K l := by
  unfold xR;rw [sortD_is h4 h3];congr 1;refine List.map_congr_left fun d hd => ?_;have h6 := hl.2 d hd
  have w : ∀ c : Int, 0 ≤ c → c ≤ n - 1 → Int.tmod (wrap64 (c + K)) n = (c + K) % n := fun c c0 c1 => by
   rw [show wrap64 (c + K) = c + K by unfold wrap64; omega, Int.tmod_eq_emod_of_nonneg (by omega)]
  unfold uM;simp only;rw [w d.f0 (by omega) (by omega), w d.f1 (by omega) (by omega)]
 rw [← e];exact ⟨h1, h5⟩
theorem mir_is (n : Int) (hn : 3 ≤ n ∧ n ≤ 12) (l : List DG) (hl : Ins n l) : Ins n (wO n l) ∧ ∀ k, 20050 < k → zm.f k n l = some (wO n l) ∧ jN.f k n l = some (wO n l) := by
 obtain ⟨r, h1, _, h3, h4, h5⟩ := mirror_tells n hn l hl;have e : r = wO n l := sortD_is h4 h3;rw [← e];exact ⟨h1, h5⟩
theorem cmpD_zero (a b c d : Int) : cmpD a b c d = 0 ↔ a = c ∧ b = d := by
 unfold cmpD Zh;(repeat' split);all_goals omega
theorem bef_rounds (l m : List DG) (hlm : l.length = m.length) (hl : l.length ≤ 1000) (e : Nat) : ∀ (i : Nat), i + e = l.length → ∃ c : Int, (c < 0 ↔ uX (l.drop i) (m.drop i) = true) ∧ ∀ k, e + 5 < k →
  ze.l0 k l m (l.length : Int) (i : Int) = some (uX (l.drop i) (m.drop i)) ∧ qE.l0 k l m l (l.length : Int) (i : Int) = some c := by
 induction e with
 | zero =>
  intro i hi;rw [List.drop_of_length_le (show l.length ≤ i by omega)];refine ⟨0, by simp [uX], fun k hk => ?_⟩;obtain ⟨k, rfl⟩ : ∃ q, k = q + 1 := ⟨k - 1, by omega⟩;simp only [ze.l0, qE.l0];rw [if_neg (by omega), if_neg (by omega), if_neg (by omega)];exact ⟨rfl, rfl⟩
 | succ e ih =>
  intro i hi;obtain ⟨c, h1, h2⟩ := ih (i + 1) (by omega);rw [uU l i (by omega), uU m i (by omega)];by_cases hc : (rD l i).f0 = (rD m i).f0 ∧ (rD l i).f1 = (rD m i).f1
  ·have hb : uX (rD l i :: l.drop (i + 1)) (rD m i :: m.drop (i + 1)) = uX (l.drop (i + 1)) (m.drop (i + 1)) := (by rw [uX, if_pos hc]);rw [hb];refine ⟨c, h1, fun k hk => ?_⟩;obtain ⟨k, rfl⟩ : ∃ q, k = q + 1 := ⟨k - 1, by omega⟩;have hd : (!((rD l i).f0 == (rD m i).f0) || !((rD l i).f1 == (rD m i).f1)) = false := (by simp [hc.1, hc.2]);simp only [ze.l0, qE.l0];rw [if_pos (by omega), if_pos (by omega), if_pos (by omega), if_pos (by omega), hd, if_neg (by simp), if_pos (by omega), if_pos (by omega), if_pos (by omega), if_neg (by omega), if_pos (by omega), uC _ _ _ _ k (by omega), Option.bind_some, if_pos ((cmpD_zero _ _ _ _).2 hc), zK i (by omega)];exact h2 k (by omega)
  ·have hb : uX (rD l i :: l.drop (i + 1)) (rD m i :: m.drop (i + 1)) = kF (rD l i).f0 (rD l i).f1 (rD m i).f0 (rD m i).f1 := (by rw [uX, if_neg hc]; rfl);rw [hb];refine ⟨cmpD (rD l i).f0 (rD l i).f1 (rD m i).f0 (rD m i).f1, cmpD_neg _ _ _ _, fun k hk => ?_⟩;obtain ⟨k, rfl⟩ : ∃ q, k = q + 1 := ⟨k - 1, by omega⟩
   have hd : (!((rD l i).f0 == (rD m i).f0) || !((rD l i).f1 == (rD m i).f1)) = true := by
    by_cases h0 : (rD l i).f0 = (rD m i).f0
    ·have : ¬ (rD l i).f1 = (rD m i).f1 := fun h => hc ⟨h0, h⟩;simp [this]
    ·simp [h0]
   simp only [ze.l0, qE.l0];rw [if_pos (by omega), if_pos (by omega), if_pos (by omega), if_pos (by omega), hd, if_pos rfl, if_pos (by omega), if_pos (by omega), if_pos (by omega), if_neg (by omega), if_pos (by omega), uC _ _ _ _ k (by omega), Option.bind_some, if_neg (fun h => hc ((cmpD_zero _ _ _ _).1 h)), QZ];exact ⟨rfl, rfl⟩
theorem bef_tells (l m : List DG) (hlm : l.length = m.length) (hl : l.length ≤ 1000) : ∃ c : Int, (c < 0 ↔ uX l m = true) ∧ ∀ k, l.length + 5 < k → ze.f k l m = some (uX l m) ∧ zN.f k l m = some c := by
 obtain ⟨c, h1, h2⟩ := bef_rounds l m hlm hl l.length 0 (by omega);rw [List.drop_zero, List.drop_zero] at h1 h2;refine ⟨c, h1, fun k hk => ?_⟩;have h3 := h2 k hk;rw [show ((0 : Nat) : Int) = 0 from rfl] at h3;unfold zN.f qE.f;rw [h3.2];exact ⟨h3.1, rfl⟩
theorem least_rounds (n : Int) (hn : 3 ≤ n ∧ n ≤ 12) (l : List DG) (hl : Ins n l) (e : Nat) : ∀ (i : Nat) (best : List DG), (i : Int) + e = n → best.length = l.length → ∀ k, 20060 + e < k →
  qQ.l0 k n l best (i : Int) = some (wZ n l e i best) ∧ qx.l0 k n l best n (i : Int) = some (wZ n l e i best) := by
 have hlen := hl.1
 induction e with
 | zero =>
  intro i best hi hbl k hk;obtain ⟨k, rfl⟩ : ∃ q, k = q + 1 := ⟨k - 1, by omega⟩;have hlt : best.length < 8796093022208 := (by omega);constructor
  ·simp only [qQ.l0, Option.bind_some, List.length_nil, Nat.zero_add, List.nil_append];rw [if_neg (by omega), if_pos hlt];rfl
  ·simp only [qx.l0];rw [if_neg (by omega)];rfl
 | succ e ih =>
  intro i best hi hbl k hk;obtain ⟨k, rfl⟩ : ∃ q, k = q + 1 := ⟨k - 1, by omega⟩;have ht := (turn_is n (i : Int) hn (by omega) l hl).2 k (by omega);have tl := Qh n (i : Int) l;obtain ⟨c, h1, h2⟩ := bef_tells (xR n (i : Int) l) best (by omega) (by omega);have h4 := h2 k (by omega);unfold wZ;by_cases hb : uX (xR n (i : Int) l) best = true
  ·have h5 := ih (i + 1) _ (by omega) tl k (by omega);rw [if_pos hb];constructor
   ·simp only [qQ.l0];rw [if_pos (by omega), ht.1, Option.bind_some, h4.1, Option.bind_some, zK i (by omega), if_pos hb];exact h5.1
   ·simp only [qx.l0];rw [if_pos (by omega), ht.2, Option.bind_some, h4.2, Option.bind_some, zK i (by omega), if_pos (h1.2 hb)];exact h5.2
  ·have h5 := ih (i + 1) _ (by omega) hbl k (by omega);rw [if_neg hb];constructor
   ·simp only [qQ.l0];rw [if_pos (by omega), ht.1, Option.bind_some, h4.1, Option.bind_some, zK i (by omega), if_neg hb];exact h5.1
   ·simp only [qx.l0];rw [if_pos (by omega), ht.2, Option.bind_some, h4.2, Option.bind_some, zK i (by omega), if_neg (fun h => hb (h1.1 h))];exact h5.2
theorem QI (n : Int) (hn : 3 ≤ n ∧ n ≤ 12) (l : List DG) (hl : Ins n l) : ∀ k, 20100 < k → qQ.f k n l = some (jE n l) ∧ qx.f k n l = some (jE n l) := by
 have hlen := hl.1;intro k hk;have h4 := least_rounds n hn l hl n.toNat 0 l (by omega) rfl k (by omega);rw [show ((0 : Nat) : Int) = 0 from rfl] at h4
 have hcl : vP.f l = some l := by
  unfold vP.f;rw [if_pos (by omega)]
 unfold qQ.f qx.f;rw [hcl, Option.bind_some];exact h4
theorem class_is (n : Int) (hn : 3 ≤ n ∧ n ≤ 12) (C : List DG) (hin : Ins n C) : ∀ k, 20200 < k → yN.f k n C = some (uB n C) ∧ zA.f k n C = some (uB n C) := by
 have hs := hin.1;have l1 := xD n C;have l2 := xD n (wO n C);have l3 := Z7 n C;have hm := mir_is n hn C hin;obtain ⟨c, h1, h2⟩ := bef_tells (jE n (wO n C)) (jE n C) (by omega) (by omega);intro k hk;have g1 := QI n hn C hin k (by omega);have g2 := hm.2 k (by omega);have g3 := QI n hn _ hm.1 k (by omega);have g4 := h2 k (by omega);unfold yN.f zA.f uB;rw [g1.1, g1.2, Option.bind_some, Option.bind_some, g2.1, g2.2, Option.bind_some, Option.bind_some, g3.1, g3.2, Option.bind_some, Option.bind_some, g4.1, g4.2, Option.bind_some, Option.bind_some];by_cases hb : uX (jE n (wO n C)) (jE n C) = true
 ·rw [if_pos hb, if_pos hb, if_pos (h1.2 hb)];exact ⟨rfl, rfl⟩
 ·rw [if_neg hb, if_neg hb, if_neg (fun h => hb (h1.1 h))];exact ⟨rfl, rfl⟩
/-- The counts and the classes, told. -/
theorem Qq (n : Int) (hn : 3 ≤ n ∧ n ≤ 8) (x : List DG) (hx : x ∈ jZ n) : Tri n x := tris_only n hn x hx
theorem Jg (n : Int) (L : List (List DG)) (hL : L.length ≤ 1048576) (hC : ∀ x ∈ L, x.length ≤ 1000 ∧ ∀ k, 20200 < k → qQ.f k n x = some (jE n x)) (e : Nat) : ∀ (i : Nat) (c : Int), i + e = L.length → 0 ≤ c → c ≤ i → ∀ k, e + 20200 < k →
  zT.l0 k n c L (L.length : Int) (i : Int) = some (c + (((L.drop i).filter fun x => eqL (jE n x) x).length : Int), true) := by
 induction e with
 | zero =>
  intro i c hi h0 h1 k hk;obtain ⟨k, rfl⟩ : ∃ q, k = q + 1 := ⟨k - 1, by omega⟩;simp only [zT.l0];rw [if_neg (by omega), List.drop_of_length_le (by omega)];simp
 | succ e ih =>
  intro i c hi h0 h1 k hk;obtain ⟨k, rfl⟩ : ∃ q, k = q + 1 := ⟨k - 1, by omega⟩;have hx := hC (L[i]) (List.getElem_mem _);have hy := xD n L[i];have wc : wrap64 (c + 1) = c + 1 := (by unfold wrap64; omega);simp only [zT.l0, Zl L i (by omega), hx.2 k (by omega), JA _ (L[i]) (show (jE n (L[i])).length ≤ 1048576 by omega) k (by omega), Option.bind_some];rw [if_pos (by omega), if_pos (by omega), if_pos (by omega), zK i (by omega), filter_drop L i (by omega), wc];cases hq : eqL (jE n (L[i])) (L[i]) with
  | true =>
   rw [if_pos rfl, if_pos rfl, ih (i + 1) (c + 1) (by omega) (by omega) (by omega) k (by omega), List.length_append, List.length_singleton];congr 2;omega
  | false =>
   rw [if_neg (by simp), if_neg (by simp), ih (i + 1) c (by omega) (by omega) (by omega) k (by omega), List.nil_append]
theorem countTurned_is (n : Int) (hn : 3 ≤ n ∧ n ≤ 8) : ∀ k, 1100000 ≤ k → zT.f k n = some ((Q9 n : Int), true) ∧ zW.f k n = some ((Q9 n : Int), true) := by
 have hsm := wL n hn;have hlen := QD n;have h1 := Jg n (jZ n) hsm (fun x hx => ⟨by have := hlen x hx; omega, fun k hk => (QI n (by omega) x (J6 (Qq n hn x hx)) k (by omega)).1⟩) (jZ n).length 0 0 (by omega) (by omega) (by omega);intro k hk
 have h2 : kZ (zW.keep k n) (jZ n) = some ((jZ n).filter fun x => eqL (jE n x) x) := Q5 fun x hx => by
  have h4 := hlen x hx;have h5 := xD n x;unfold zW.keep;rw [(QI n (by omega) x (J6 (Qq n hn x hx)) k (by omega)).2, Option.bind_some, ZE _ x (by omega) k (by omega)]
 have h3 := h1 k (by omega);rw [show ((0 : Nat) : Int) = 0 from rfl, List.drop_zero, Int.zero_add] at h3;simp only [zT.f, zW.f, zR.f, qw.f, vS, yF, decide_eq_true hn, Option.bind_some, if_true, Qx n hn, kv n hn k (by omega), h2, h3];exact ⟨rfl, rfl⟩
theorem countTurned_no (n : Int) (hn : ¬ (3 ≤ n ∧ n ≤ 8)) (k : Nat) : zT.f k n = some (0, false) ∧ zW.f k n = some (0, false) := by
 simp [zT.f, zW.f, zR.f, qw.f, vS, yF, hn]
theorem classes_is (n : Int) (hn : 3 ≤ n ∧ n ≤ 8) (keep : Nat → List DG → Option Bool) (hkeep : ∀ k x y, zA.f k n x = some y → y.length ≤ 1000 → 1000 < k → keep k x = some (eqL y x)) : ∀ k, 20400 ≤ k → zZ.f k n = some (xw n) ∧ kZ (keep k) (jZ n) = some (xw n) := by
 have hsm := wL n hn;have hlen := QD n;intro k hk;have hc : ∀ x ∈ jZ n, (uB n x).length ≤ 1000 ∧ yN.f k n x = some (uB n x) ∧ zA.f k n x = some (uB n x) := fun x hx => ⟨by have := hlen x hx; have := classL_len n x; omega, class_is n (by omega) x (J6 (Qq n hn x hx)) k (by omega)⟩;constructor
 ·unfold zZ.f;rw [Qx n hn, Option.bind_some, if_pos hsm];refine Q5 fun x hx => ?_;have h3 := hc x hx;unfold zZ.keep;rw [h3.2.1, Option.bind_some, JA _ x (by omega) k (by omega)]
 ·refine Q5 fun x hx => ?_;have h3 := hc x hx;exact hkeep k x (uB n x) h3.2.2 h3.1 (by omega)
theorem countClasses_is (n : Int) (hn : 3 ≤ n ∧ n ≤ 8) : ∀ k, 20400 ≤ k → vH.f k n = some (((xw n).length : Int), true) ∧ zM.f k n = some (((xw n).length : Int), true) := by
 intro k hk
 have h1 := classes_is n hn (fun k => zM.keep k n) (fun k x y h1 h2 h3 => by
  unfold zM.keep;rw [h1, Option.bind_some, ZE _ x (by omega) k (by omega)]) k hk
 simp only [vH.f, zM.f, zR.f, qw.f, vS, yF, decide_eq_true hn, Option.bind_some, if_true, kv n hn k (by omega), h1.1, h1.2];exact ⟨trivial, trivial⟩
theorem countClasses_no (n : Int) (hn : ¬ (3 ≤ n ∧ n ≤ 8)) (k : Nat) : vH.f k n = some (0, false) ∧ zM.f k n = some (0, false) := by
 simp [vH.f, zM.f, zR.f, qw.f, vS, yF, hn]
theorem allClasses_is (n : Int) (hn : 3 ≤ n ∧ n ≤ 8) : ∀ k, 20400 ≤ k → xg.f k n = some (xw n, true) ∧ zP.f k n = some (xw n, true) := by
 intro k hk
 have h1 := classes_is n hn (fun k => zP.keep k n) (fun k x y h1 h2 h3 => by
  unfold zP.keep;rw [h1, Option.bind_some, ZE _ x (by omega) k (by omega)]) k hk
 have h4 := wL n hn;simp only [xg.f, zP.f, zR.f, qw.f, vS, yF, decide_eq_true hn, Option.bind_some, if_true, kv n hn k (by omega), if_pos h4, h1.1, h1.2];exact ⟨trivial, trivial⟩
theorem allClasses_no (n : Int) (hn : ¬ (3 ≤ n ∧ n ≤ 8)) (k : Nat) : xg.f k n = some ([], false) ∧ zP.f k n = some ([], false) := by
 simp [xg.f, zP.f, zR.f, qw.f, vS, yF, hn]
theorem Zq (n q : Int) (L : List (List DG)) (hL : L.length ≤ 1048576) (hC : ∀ x ∈ L, x.length ≤ 1000 ∧ ∀ k, 20200 < k → zx.f k n x q = some (xR n q x)) (e : Nat) : ∀ (i : Nat) (c : Int), i + e = L.length → 0 ≤ c → c ≤ i → ∀ k, e + 20200 < k →
  qD.l0 k n q c L (L.length : Int) (i : Int) = some (c + (((L.drop i).filter fun x => eqL (xR n q x) x).length : Int), true) := by
 induction e with
 | zero =>
  intro i c hi h0 h1 k hk;obtain ⟨k, rfl⟩ : ∃ q, k = q + 1 := ⟨k - 1, by omega⟩;simp only [qD.l0];rw [if_neg (by omega), List.drop_of_length_le (by omega)];simp
 | succ e ih =>
  intro i c hi h0 h1 k hk;obtain ⟨k, rfl⟩ : ∃ q, k = q + 1 := ⟨k - 1, by omega⟩;have hx := hC (L[i]) (List.getElem_mem _);have hy := Qh n q L[i];have wc : wrap64 (c + 1) = c + 1 := (by unfold wrap64; omega);simp only [qD.l0, Zl L i (by omega), hx.2 k (by omega), JA _ (L[i]) (show (xR n q (L[i])).length ≤ 1048576 by omega) k (by omega), Option.bind_some];rw [if_pos (by omega), if_pos (by omega), if_pos (by omega), zK i (by omega), filter_drop L i (by omega), wc];cases hq : eqL (xR n q (L[i])) (L[i]) with
  | true =>
   rw [if_pos rfl, if_pos rfl, ih (i + 1) (c + 1) (by omega) (by omega) (by omega) k (by omega), List.length_append, List.length_singleton];congr 2;omega
  | false =>
   rw [if_neg (by simp), if_neg (by simp), ih (i + 1) c (by omega) (by omega) (by omega) k (by omega), List.nil_append]
theorem Q0 (n q : Int) (hn : 3 ≤ n ∧ n ≤ 8) (hq : 1 ≤ q ∧ q ≤ n - 1) : ∀ k, 1100000 ≤ k → qD.f k n q = some ((symL n q : Int), true) ∧ qW.f k n q = some ((symL n q : Int), true) := by
 have w1 : wrap64 (n - 1) = n - 1 := (by unfold wrap64; omega);have hsm := wL n hn;have hlen := QD n;have hof : ∀ x ∈ jZ n, ∀ k, 20050 < k → zx.f k n x q = some (xR n q x) ∧ jU.f k n x q = some (xR n q x) := fun x hx => (turn_is n q (by omega) (by omega) x (J6 (Qq n hn x hx))).2;have h1 := Zq n q (jZ n) hsm (fun x hx => ⟨by have := hlen x hx; omega, fun k hk => (hof x hx k (by omega)).1⟩) (jZ n).length 0 0 (by omega) (by omega) (by omega);intro k hk;obtain ⟨k, rfl⟩ : ∃ q, k = q + 1 := ⟨k - 1, by omega⟩
 have h2 : kZ (qW.keep (k + 1) n q) (jZ n) = some ((jZ n).filter fun x => eqL (xR n q x) x) := Q5 fun x hx => by
  have h4 := hlen x hx;have h5 := Qh n q x;unfold qW.keep zG.f;rw [(hof x hx (k + 1) (by omega)).2, Option.bind_some, Option.bind_some, ZE _ x (by omega) (k + 1) (by omega)]
 have h3 := h1 k (by omega);rw [show ((0 : Nat) : Int) = 0 from rfl, List.drop_zero, Int.zero_add] at h3;simp only [qD.f, qW.f, zR.f, qw.f, vS, yF, w1, decide_eq_true hn, decide_eq_true hq, Option.bind_some, if_true, Bool.not_true, qD.j0, Bool.false_eq_true, if_false, Qx n hn, kv n hn (k + 1) (by omega), h2, h3];exact ⟨rfl, rfl⟩
theorem Jt (n q : Int) (h : ¬ ((3 ≤ n ∧ n ≤ 8) ∧ 1 ≤ q ∧ q ≤ n - 1)) (k : Nat) (hk : 1 ≤ k) : qD.f k n q = some (0, false) ∧ qW.f k n q = some (0, false) := by
 obtain ⟨k, rfl⟩ : ∃ q, k = q + 1 := ⟨k - 1, by omega⟩;by_cases hn : 3 ≤ n ∧ n ≤ 8
 ·have w1 : wrap64 (n - 1) = n - 1 := (by unfold wrap64; omega);have hq : ¬ (1 ≤ q ∧ q ≤ n - 1) := fun hq => h ⟨hn, hq⟩;simp [qD.f, qW.f, zR.f, qw.f, vS, yF, hn, w1, hq, qD.j0]
 ·simp [qD.f, qW.f, zR.f, qw.f, vS, yF, hn, qD.j0]
/-- LeastOfClass, LeastTurned, IsOwnMirror, IsTriangulation, MirrorPolygon, TurnPolygon: for every list. -/
theorem isTri_is (n : Int) (C : List DG) (hc : C.length ≤ 1048576) : ∃ K, ∀ k, K ≤ k → qL.f k n C = some (vE n C) ∧ qi.f k n C = some (vE n C) := by
 obtain ⟨K, e1, e2⟩ := Ev.at2 (poGood_tells n C (by omega)) (isTri_tells n C (by omega));exact ⟨K, fun k hk => ⟨by rw [show k = K + (k - K) by omega]; exact e1 _, by rw [show k = K + (k - K) by omega]; exact e2 _⟩⟩

end Go.Proofs.YtgblginphicacaaGreat.PureFnClassesTold
