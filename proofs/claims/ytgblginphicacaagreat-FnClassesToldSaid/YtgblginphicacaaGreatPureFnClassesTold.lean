/- The statement FnClassesTold holds for all arguments. -/
import Derived.Test.YtgblginphicacaaGreatTFnClassesToldA
import Derived.Test.YtgblginphicacaaGreatTFnClassesToldB
import Derived.Test.YtgblginphicacaaGreatPFnClassesToldx27
set_option linter.unusedSimpArgs false
set_option linter.unnecessarySimpa false
set_option linter.unusedVariables false
namespace Go.Proofs.YtgblginphicacaaGreat.PureFnClassesTold
open Go.RowKit Go.Proofs.YtgblginphicacaaGreat.PFnClassesTold Go.Proofs.YtgblginphicacaaGreatW.PrintWords Go.Proofs.YtgblginphicacaaGreatW.PrintLast

/-! The law's own comparisons. -/
theorem dCuts_rounds (l m : List DG) (hlm : l.length = m.length) (hl : l.length ≤ 1048576) (e : Nat) : ∀ (i : Nat), i + e = l.length → ∀ k, e < k → qR.l0 k l m (l.length : Int) (i : Int) = some (eqL (l.drop i) (m.drop i)) := by
 induction e with
 | zero =>
  intro i hi k hk;obtain ⟨k, rfl⟩ : ∃ q, k = q + 1 := ⟨k - 1, by omega⟩;simp only [qR.l0];rw [if_neg (by omega), List.drop_of_length_le (by omega), List.drop_of_length_le (by omega)];rfl
 | succ e ih =>
  intro i hi k hk;obtain ⟨k, rfl⟩ : ∃ q, k = q + 1 := ⟨k - 1, by omega⟩;rw [uU l i (by omega), uU m i (by omega), eqL];simp only [qR.l0];rw [if_pos (by omega), if_pos (by omega), if_pos (by omega), if_pos (by omega)];cases h1 : (rD l i).f0 == (rD m i).f0 <;> cases h2 : (rD l i).f1 == (rD m i).f1
  ·rw [if_pos (by simp)]; simp
  ·rw [if_pos (by simp)]; simp
  ·rw [if_pos (by simp)]; simp
  ·rw [if_neg (by simp), zK i (by omega), ih (i + 1) (by omega) k (by omega)]; simp
theorem Qs (l m : List DG) (hl : l.length ≤ 1048576) (k : Nat) (hk : l.length < k) : qR.f k l m = some (eqL l m) := by
 unfold qR.f;by_cases h : l.length = m.length
 ·rw [if_pos (by omega)];exact dCuts_rounds l m h hl l.length 0 (by omega) k hk
 ·rw [if_neg (by omega)];cases he : eqL l m with
  | false => rfl
  | true => exact absurd (eqL_len l m he) h
theorem Zv (l : List DG) : eqL l l = true := (ZK l l).2 rfl
theorem dAll_rounds (L : List (List DG)) (hL : L.length ≤ 1048576) (hx : ∀ x ∈ L, x.length ≤ 1000) (e : Nat) : ∀ (i : Nat), i + e = L.length → ∀ k, e + 1001 < k → vG.l0 k L L (L.length : Int) (i : Int) = some true := by
 induction e with
 | zero =>
  intro i hi k hk;obtain ⟨k, rfl⟩ : ∃ q, k = q + 1 := ⟨k - 1, by omega⟩;simp only [vG.l0];rw [if_neg (by omega)]
 | succ e ih =>
  intro i hi k hk;obtain ⟨k, rfl⟩ : ∃ q, k = q + 1 := ⟨k - 1, by omega⟩;have h1 := hx L[i] (List.getElem_mem _);simp only [vG.l0];rw [if_pos (by omega), if_pos (by omega), if_pos (by omega), if_pos (by omega), Zl L i (by omega), Qs _ _ (by omega) k (by omega), Option.bind_some, Zv, if_pos rfl, zK i (by omega)];exact ih (i + 1) (by omega) k (by omega)
theorem dAll_is (L : List (List DG)) (hL : L.length ≤ 1048576) (hx : ∀ x ∈ L, x.length ≤ 1000) (k : Nat) (hk : L.length + 1001 < k) : vG.f k L L = some true := by
 unfold vG.f;rw [if_pos rfl];exact dAll_rounds L hL hx L.length 0 (by omega) k (by omega)
theorem dSame_rounds (l : List Int) (hl : l.length ≤ 1048576) (e : Nat) : ∀ (i : Nat), i + e = l.length → ∀ k, e < k → jP.l0 k l l (l.length : Int) (i : Int) = some true := by
 induction e with
 | zero =>
  intro i hi k hk;obtain ⟨k, rfl⟩ : ∃ q, k = q + 1 := ⟨k - 1, by omega⟩;simp only [jP.l0];rw [if_neg (by omega)]
 | succ e ih =>
  intro i hi k hk;obtain ⟨k, rfl⟩ : ∃ q, k = q + 1 := ⟨k - 1, by omega⟩;simp only [jP.l0];rw [if_pos (by omega), if_pos (by omega), if_pos (by omega), if_pos (by omega), if_pos trivial, zK i (by omega)];exact ih (i + 1) (by omega) k (by omega)
theorem dSame_is (l : List Int) (hl : l.length ≤ 1048576) (k : Nat) (hk : l.length < k) : jP.f k l l = some true := by
 unfold jP.f;rw [if_pos rfl];exact dSame_rounds l hl l.length 0 (by omega) k (by omega)
theorem dLists_rounds (L : List (List Int)) (hL : L.length ≤ 1048576) (hx : ∀ x ∈ L, x.length ≤ 1000) (e : Nat) : ∀ (i : Nat), i + e = L.length → ∀ k, e + 1001 < k → yt.l0 k L L (L.length : Int) (i : Int) = some true := by
 induction e with
 | zero =>
  intro i hi k hk;obtain ⟨k, rfl⟩ : ∃ q, k = q + 1 := ⟨k - 1, by omega⟩;simp only [yt.l0];rw [if_neg (by omega)]
 | succ e ih =>
  intro i hi k hk;obtain ⟨k, rfl⟩ : ∃ q, k = q + 1 := ⟨k - 1, by omega⟩
  have hm : L.getD i [] ∈ L := by
   rw [List.getD_eq_getElem?_getD, List.getElem?_eq_getElem (by omega)];exact List.getElem_mem _
  have h1 := hx _ hm;simp only [yt.l0];rw [if_pos (by omega), if_pos (by omega), if_pos (by omega), if_pos (by omega), J4 L i (by omega), dSame_is _ (by omega) k (by omega), Option.bind_some, if_pos rfl, zK i (by omega)];exact ih (i + 1) (by omega) k (by omega)
theorem dLists_is (L : List (List Int)) (hL : L.length ≤ 1048576) (hx : ∀ x ∈ L, x.length ≤ 1000) (k : Nat) (hk : L.length + 1001 < k) : yt.f k L L = some true := by
 unfold yt.f;rw [if_pos rfl];exact dLists_rounds L hL hx L.length 0 (by omega) k (by omega)
theorem dBefore_rounds (l m : List DG) (hlm : l.length = m.length) (hl : l.length ≤ 1048576) (e : Nat) : ∀ (i : Nat), i + e = l.length → ∀ k, e < k → jK.l0 k l m (l.length : Int) (i : Int) = some (uX (l.drop i) (m.drop i)) := by
 induction e with
 | zero =>
  intro i hi k hk;obtain ⟨k, rfl⟩ : ∃ q, k = q + 1 := ⟨k - 1, by omega⟩;simp only [jK.l0];rw [if_neg (by omega), List.drop_of_length_le (by omega), List.drop_of_length_le (by omega)];rfl
 | succ e ih =>
  intro i hi k hk;obtain ⟨k, rfl⟩ : ∃ q, k = q + 1 := ⟨k - 1, by omega⟩;rw [uU l i (by omega), uU m i (by omega)];simp only [jK.l0];rw [if_pos (by omega), if_pos (by omega), if_pos (by omega), if_pos (by omega)];by_cases hc : (rD l i).f0 = (rD m i).f0 ∧ (rD l i).f1 = (rD m i).f1
  ·have hd : (!((rD l i).f0 == (rD m i).f0) || !((rD l i).f1 == (rD m i).f1)) = false := (by simp [hc.1, hc.2]);rw [hd, if_neg (by simp), zK i (by omega), ih (i + 1) (by omega) k (by omega), uX, if_pos hc]
  ·have hd : (!((rD l i).f0 == (rD m i).f0) || !((rD l i).f1 == (rD m i).f1)) = true := by
    by_cases h0 : (rD l i).f0 = (rD m i).f0
    ·have : ¬ (rD l i).f1 = (rD m i).f1 := fun h => hc ⟨h0, h⟩;simp [this]
    ·simp [h0]
   rw [hd, if_pos rfl, uX, if_neg hc];unfold Z8;by_cases h1 : (rD l i).f0 < (rD m i).f0
   ·rw [if_pos h1, decide_eq_true (Or.inl h1)]
   ·rw [if_neg h1];by_cases h2 : (rD l i).f0 = (rD m i).f0
    ·rw [if_pos h2];congr 1;rw [decide_eq_decide];exact ⟨fun h => Or.inr ⟨h2, h⟩, fun h => h.elim (fun h => absurd h h1) (fun h => h.2)⟩
    ·rw [if_neg h2, decide_eq_false (fun h => h.elim h1 fun h => h2 h.1)]
theorem Jj (l m : List DG) (hlm : l.length = m.length) (hl : l.length ≤ 1048576) (k : Nat) (hk : l.length < k) : jK.f k l m = some (uX l m) := by
 unfold jK.f;exact dBefore_rounds l m hlm hl l.length 0 (by omega) k hk
theorem JK (x y : List Int) (hl : x.length = y.length) (hx : x.length ≤ 1000) : ∀ (d i k : Nat), i + d = x.length → d < k → xu.l0 k x y (x.length : Int) (i : Int) = some (decide (x.drop i < y.drop i))
 | 0, i, k, hi, hk => by
  obtain ⟨k, rfl⟩ : ∃ q, k = q + 1 := ⟨k - 1, by omega⟩;rw [xu.l0, if_neg (by omega), List.drop_of_length_le (show x.length ≤ i by omega), List.drop_of_length_le (show y.length ≤ i by omega)];simp [hl]
 | d + 1, i, k, hi, hk => by
  obtain ⟨k, rfl⟩ : ∃ q, k = q + 1 := ⟨k - 1, by omega⟩;have h1 : i < x.length := (by omega);have h2 : i < y.length := (by omega);rw [xu.l0, if_pos (by omega), if_neg (by omega), if_pos (by omega), if_pos (by omega), if_pos (by omega), rdI_at x i h1, rdI_at y i h2, List.drop_eq_getElem_cons h1, List.drop_eq_getElem_cons h2];by_cases he : x[i] = y[i]
  ·rw [if_pos he, show wrap64 ((i : Int) + 1) = ((i + 1 : Nat) : Int) by unfold wrap64; omega, JK x y hl hx d (i + 1) k (by omega) (by omega)];congr 1;rw [decide_eq_decide, List.cons_lt_cons_iff];constructor
   ·intro h; exact Or.inr ⟨he, h⟩
   ·rintro (h | h)
    ·omega
    ·exact h.2
  ·rw [if_neg he];congr 1;rw [decide_eq_decide, List.cons_lt_cons_iff];constructor
   ·intro h; exact Or.inl h
   ·rintro (h | h)
    ·exact h
    ·exact absurd h.1 he
theorem dLess_is (x y : List Int) (hl : x.length = y.length) (hx : x.length ≤ 1000) (k : Nat) (hk : x.length < k) : xu.f k x y = some (decide (x < y)) := by
 have h := JK x y hl hx x.length 0 k (by omega) hk;rw [List.drop_zero, List.drop_zero] at h;exact h
/-! What is told of any list: the functions that ask for a triangulation first. -/
theorem QT {n : Int} {l : List DG} (T : Tri n l) : vE n l = true := by
 unfold vE;rw [decide_eq_true T.n3, decide_eq_true T.len, good_tri n l T];rfl
def ifT (b : Bool) (l : List DG) : List DG := if b = true then l else []
theorem QF (n : Int) (C : List DG) (hc : C.length ≤ 1048576) : ∃ K, ∀ k, K ≤ k →
  qi.f k n C = some (vE n C) ∧
  jS.f k n C = some (ifT (vE n C) (uB n C), vE n C) ∧ vV.f k n C = some (ifT (vE n C) (uB n C), vE n C) ∧
  yu.f k n C = some (ifT (vE n C) (jE n C), vE n C) ∧ xh.f k n C = some (ifT (vE n C) (jE n C), vE n C) ∧
  vF.f k n C = some (vE n C && eqL (jE n C) (jE n (wO n C)), vE n C) ∧ xm.f k n C = some (vE n C && eqL (jE n C) (jE n (wO n C)), vE n C) ∧
  vK.f k n C = some (ifT (vE n C) (wO n C), vE n C) ∧
  ∀ q : Int, 0 ≤ q → q < n → xn.f k n C q = some (ifT (vE n C) (xR n q C), vE n C) := by
 obtain ⟨K, hK⟩ := isTri_is n C hc;refine ⟨K + 20300, fun k hk => ?_⟩;obtain ⟨e1, e2⟩ := hK k (by omega);cases ht : vE n C
 ·rw [ht] at e1 e2;simp [jS.f, vV.f, yu.f, xh.f, vF.f, xm.f, vK.f, xn.f, e1, e2, ifT]
 ·rw [ht] at e1 e2;have T := tri_of n C ht;have hi := J6 T;have hs := T.Jq;have c1 := class_is n T.n3 C hi k (by omega);have c2 := QI n T.n3 C hi k (by omega);have c3 := mir_is n T.n3 C hi;have c4 := c3.2 k (by omega);have c5 := QI n T.n3 _ c3.1 k (by omega);have l1 := xD n C;have c6 := ZE (jE n C) (jE n (wO n C)) (by omega) k (by omega);have c7 := JA (jE n C) (jE n (wO n C)) (by omega) k (by omega);refine ⟨e2, ?_, ?_, ?_, ?_, ?_, ?_, ?_, fun q q0 q1 => ?_⟩
  ·unfold jS.f; rw [e2, Option.bind_some, if_pos rfl, c1.2]; rfl
  ·unfold vV.f; rw [e1, Option.bind_some, if_pos rfl, c1.1]; rfl
  ·unfold yu.f; rw [e2, Option.bind_some, if_pos rfl, c2.2]; rfl
  ·unfold xh.f; rw [e1, Option.bind_some, if_pos rfl, c2.1]; rfl
  ·unfold vF.f; rw [e2, Option.bind_some, if_pos rfl, c2.2, Option.bind_some, c4.2, Option.bind_some, c5.2, Option.bind_some, c6]; rfl
  ·unfold xm.f; rw [e1, Option.bind_some, if_pos rfl, c2.1, Option.bind_some, c4.1, Option.bind_some, c5.1, Option.bind_some, c7]; rfl
  ·unfold vK.f; rw [e2, Option.bind_some, if_pos rfl, c4.2]; rfl
  ·have h3 := T.n3;have w1 : wrap64 (n - 1) = n - 1 := (by unfold wrap64; omega);have c8 := (turn_is n q T.n3 (by omega) C hi).2 k (by omega);unfold xn.f;rw [e2, Option.bind_some, if_pos rfl, w1, yF, decide_eq_true (show 0 ≤ q ∧ q ≤ n - 1 by omega), Option.bind_some, if_pos rfl, c8.2];rfl

end Go.Proofs.YtgblginphicacaaGreat.PureFnClassesTold

set_option linter.unusedSimpArgs false
set_option linter.unnecessarySimpa false
set_option linter.unusedVariables false
namespace Go.Proofs.YtgblginphicacaaGreat.PureFnClassesTold
open Go.RowKit Go.Proofs.YtgblginphicacaaGreat.PFnClassesTold Go.Proofs.YtgblginphicacaaGreatW.PrintWords Go.Proofs.YtgblginphicacaaGreatW.PrintLast

/-! The drawing functions: they answer, and within bounds. -/
theorem and255 (x : Int) (h0 : 0 ≤ x) (h1 : x < 18446744073709551616) : 0 ≤ Go.bits .and .u64 x 255 ∧ Go.bits .and .u64 x 255 ≤ 255 := by
 obtain ⟨a, rfl⟩ : ∃ a : Nat, x = a := ⟨x.toNat, by omega⟩;rw [show (255 : Int) = ((255 : Nat) : Int) from rfl, bits_and_u64_nat a 255 (by omega) (by omega)];have : a &&& 255 ≤ 255 := Nat.and_le_right;omega
theorem u64w (x : Int) : 0 ≤ IntKind.u64.wrap x ∧ IntKind.u64.wrap x < 18446744073709551616 := by
 rw [IntKind.wrap_u64];omega
theorem high255 (x : Int) : 0 ≤ wrap64 (Go.bits .and .u64 (IntKind.u64.wrap x / 1099511627776) 255) ∧ wrap64 (Go.bits .and .u64 (IntKind.u64.wrap x / 1099511627776) 255) ≤ 255 := by
 have h := u64w x;have h2 := and255 (IntKind.u64.wrap x / 1099511627776) (by omega) (by omega);generalize Go.bits .and .u64 (IntKind.u64.wrap x / 1099511627776) 255 = y at h2 ⊢;unfold wrap64;omega
def Bytes (s : List Int) : Prop := s.length ≤ 1048576 ∧ ∀ x ∈ s, 0 ≤ x ∧ x ≤ 255
theorem rd_byte {s : List Int} (hs : Bytes s) (a : Int) (h0 : 0 ≤ a) (h1 : a < (s.length : Int)) : 0 ≤ wrap64 (rd s a) ∧ wrap64 (rd s a) ≤ 255 := by
 have h2 : rd s a ∈ s := by
  unfold rd;rw [List.getD_eq_getElem?_getD, List.getElem?_eq_getElem (by omega)];exact List.getElem_mem _
 have := hs.2 _ h2;unfold wrap64;omega
theorem next_is {s : List Int} (hs : Bytes s) (a b : Int) (h0 : 0 ≤ a) (h1 : a ≤ 1000000000) : ∃ v c, vN.f s a b = some (v, a + 1, c) ∧ 0 ≤ v ∧ v ≤ 255 := by
 have hl := hs.1;have w : wrap64 (a + 1) = a + 1 := (by unfold wrap64; omega);unfold vN.f;rw [w];by_cases hlt : a < (s.length : Int)
 ·rw [if_pos hlt, if_pos h0, if_pos (by omega)];exact ⟨_, _, rfl, rd_byte hs a h0 hlt⟩
 ·rw [if_neg hlt];by_cases hle : a + 1 ≤ (s.length : Int)
  ·omega
  ·rw [if_neg hle];exact ⟨_, _, rfl, high255 _⟩
theorem Qv {s : List Int} (hs : Bytes s) (a b n : Int) (h0 : 0 ≤ a) (h1 : a ≤ 1000000) (hn : n ≤ 200) : ∃ v a' c, qG.f s a b n = some (v, a', c) ∧ 0 ≤ v ∧ (1 ≤ n → v < n) ∧ 0 ≤ a' ∧ a' ≤ a + 1 := by
 unfold qG.f;by_cases h : n ≤ 1
 ·rw [if_pos h];exact ⟨_, _, _, rfl, by omega, fun _ => by omega, h0, by omega⟩
 ·obtain ⟨v, c, e, v0, v1⟩ := next_is hs a b h0 (by omega);rw [if_neg h, e, Option.bind_some, if_neg (by omega), if_neg (by omega)];have h2 := Int.emod_nonneg v (show n ≠ 0 by omega);have h3 := Int.emod_lt_of_pos v (show 0 < n by omega);refine ⟨Int.tmod v n, a + 1, c, rfl, ?_, fun _ => ?_, by omega, by omega⟩ <;> rw [Int.tmod_eq_emod_of_nonneg v0] <;> assumption
theorem QE {s : List Int} (hs : Bytes s) (a b : Int) (h0 : 0 ≤ a) (h1 : a ≤ 1000000) (l : List Int) (hl : 1 ≤ l.length ∧ l.length ≤ 200) : ∃ v a' c, zy.f s a b l = some (v, a', c) ∧ v ∈ l ∧ 0 ≤ a' ∧ a' ≤ a + 1 := by
 obtain ⟨v, a', c, e, v0, v1, ha, ha'⟩ := Qv hs a b (l.length : Int) h0 h1 (by omega);have v2 := v1 (by omega);unfold zy.f;rw [e, Option.bind_some, if_pos v0, if_pos v2];refine ⟨_, _, _, rfl, ?_, ha, ha'⟩;unfold rd;rw [List.getD_eq_getElem?_getD, List.getElem?_eq_getElem (by simp only; omega)];exact List.getElem_mem _
theorem drawN_is {s : List Int} (hs : Bytes s) : ∃ n, jG.f s = some n ∧ 2 ≤ n ∧ n ≤ 9 := by
 obtain ⟨v, a, c, e, hm, _, _⟩ := QE hs 0 0 (by omega) (by omega) [3, 4, 5, 6, 7, 5, 6, 8, 2, 9] (by simp);refine ⟨v, ?_, ?_⟩
 ·unfold jG.f;rw [e];rfl
 ·simp only [List.mem_cons, List.not_mem_nil, or_false] at hm;omega
theorem drawS_is {s : List Int} (hs : Bytes s) : ∃ n q, yG.f s = some (n, q) := by
 obtain ⟨n, e1, _, _⟩ := drawN_is hs;obtain ⟨v, a, c, e, _⟩ := QE hs 0 0 (by omega) (by omega) [1, 2, 3, 4, wrap64 (Int.tdiv n 2), wrap64 (n - 1), n, 0] (by simp);refine ⟨n, v, ?_⟩;unfold yG.f;rw [e1, Option.bind_some, e];rfl
/-- What sureQuiddity makes. -/
def Sure (out : List Int) : Prop := 3 ≤ out.length ∧ ∀ x ∈ out, 0 ≤ x ∧ x ≤ 2 * (out.length : Int)
theorem sure_set {l : List Int} {B : Int} (h : ∀ x ∈ l, 0 ≤ x ∧ x ≤ B) (i : Int) (h0 : 0 ≤ i) (h1 : i < (l.length : Int)) (hB : B ≤ 1000) : ∀ x ∈ l.set i.toNat (wrap64 (rd l i + 1)), 0 ≤ x ∧ x ≤ B + 1 := by
 intro x hx;rcases List.mem_or_eq_of_mem_set hx with h2 | h2
 ·have := h x h2;omega
 ·have h3 : rd l i ∈ l := by
   unfold rd;rw [List.getD_eq_getElem?_getD, List.getElem?_eq_getElem (by omega)];exact List.getElem_mem _
  have := h _ h3;rw [h2];unfold wrap64;omega
theorem wpA (p : Nat) (h : p ≤ 1000) : wrap64 (1 + (p : Int)) = 1 + (p : Int) := by unfold wrap64; omega
theorem wpB (p : Nat) (h : p ≤ 1000) : wrap64 (1 + (p : Int) - 1) = (p : Int) := by unfold wrap64; omega
theorem wpC (p : Nat) (h : p ≤ 1000) : wrap64 (1 + (p : Int) + 1) = (p : Int) + 2 := by unfold wrap64; omega
def JB (out : List Int) (p : Nat) : List Int := out.take (p + 1) ++ [1] ++ out.drop (p + 1)
theorem JE (out : List Int) (p : Nat) (hp : p < out.length) : (JB out p).length = out.length + 1 := by
 unfold JB;simp;omega
def nextI (out : List Int) (p : Nat) : Int := Int.tmod ((p : Int) + 2) ((JB out p).length : Int)
theorem nextI_in (out : List Int) (p : Nat) (hp : p < out.length) : 0 ≤ nextI out p ∧ nextI out p < ((JB out p).length : Int) := by
 have h := JE out p hp;unfold nextI;rw [Int.tmod_eq_emod_of_nonneg (by omega)];exact ⟨Int.emod_nonneg _ (by omega), Int.emod_lt_of_pos _ (by omega)⟩
def stepL (out : List Int) (p : Nat) : List Int := ((JB out p).set (p : Int).toNat (wrap64 (rd (JB out p) p + 1))).set (nextI out p).toNat (wrap64 (rd ((JB out p).set (p : Int).toNat (wrap64 (rd (JB out p) p + 1))) (nextI out p) + 1))
theorem stepL_len (out : List Int) (p : Nat) (hp : p < out.length) : (stepL out p).length = out.length + 1 := by
 unfold stepL;rw [List.length_set, List.length_set, JE out p hp]
theorem midL_mem (out : List Int) (p : Nat) (hS : Sure out) : ∀ x ∈ JB out p, 0 ≤ x ∧ x ≤ 2 * (out.length : Int) := by
 intro x hx;have h3 := hS.1;unfold JB at hx;rcases List.mem_append.1 hx with hx | hx
 ·rcases List.mem_append.1 hx with hx | hx
  ·exact hS.2 x (List.mem_of_mem_take hx)
  ·rw [List.mem_singleton.1 hx]; omega
 ·exact hS.2 x (List.mem_of_mem_drop hx)
theorem stepL_sure (out : List Int) (p : Nat) (hS : Sure out) (hp : p < out.length) (hl : out.length ≤ 100) : Sure (stepL out p) := by
 have h1 := JE out p hp;have m1 := sure_set (midL_mem out p hS) (p : Int) (by omega) (by omega) (by omega);have j0 := nextI_in out p hp;have m2 := sure_set m1 (nextI out p) j0.1 (by rw [List.length_set]; exact j0.2) (by omega);have h2 := stepL_len out p hp;have h3 := hS.1;refine ⟨by omega, fun x hx => ?_⟩;have h4 := m2 x hx;rw [h2];omega
theorem stepL_tells {s : List Int} (n : Int) (k : Nat) (out : List Int) (p : Nat) (a b a1 b1 : Int) (hp : p < out.length) (hl : out.length ≤ 100) (hn : (out.length : Int) < n) (ep : qG.f s a b (out.length : Int) = some ((p : Int), a1, b1)) :
  qB.l0 (k + 1) n out s a b = qB.l0 k n (stepL out p) s a1 b1 := by
 have hm := JE out p hp;have j0 := nextI_in out p hp;have c2 : (0 : Int) ≤ 1 + (p : Int) := (by omega);have c3 : 1 + (p : Int) ≤ (out.length : Int) := (by omega);have c4 : (out.take (p + 1)).length ≤ 100 := (by rw [List.length_take]; omega);have c4' : (out.take (p + 1)).length ≤ 1048576 := Nat.le_trans c4 (by decide);have c5 : (out.take (p + 1)).length < 17592186044416 := Nat.lt_of_le_of_lt c4 (by decide)
 have c6 : (out.take (p + 1) ++ [1]).length + (out.drop (p + 1)).length < 17592186044416 := by
  rw [List.length_append, List.length_drop, List.length_singleton];exact Nat.lt_of_le_of_lt (show _ ≤ 201 by omega) (by decide)
 have c7 : (0 : Int) ≤ (p : Int) := (by omega);have c8 : (p : Int) < ((JB out p).length : Int) := (by omega);have c9 : ¬ ((JB out p).length : Int) = 0 := (by omega);have ht : (1 + (p : Int)).toNat = p + 1 := (by omega);have hp' : p ≤ 1000 := (by omega);simp only [qB.l0];rw [if_pos hn, ep];rw [Option.bind_some];dsimp only;rw [wpA p hp', wpB p hp', wpC p hp', ht, if_pos c2, if_pos c3, ZV _ c4', Option.bind_some, if_pos c5, Option.bind_some, Option.bind_some, if_pos c6, Option.bind_some, show out.take (p + 1) ++ [1] ++ out.drop (p + 1) = JB out p from rfl, if_pos c7, if_pos c8, Option.bind_some, if_neg c9, show Int.tmod ((p : Int) + 2) ((JB out p).length : Int) = nextI out p from rfl, if_pos j0.1, if_pos j0.2];rfl
theorem sure_rounds {s : List Int} (hs : Bytes s) (n : Int) (hn : n ≤ 10) (e : Nat) : ∀ (out : List Int) (a b : Int), Sure out → (out.length : Int) + e = n → 0 ≤ a → a ≤ 1000 - e → ∃ r a' b', Sure r ∧ (r.length : Int) = n ∧ 0 ≤ a' ∧ a' ≤ a + e ∧ ∀ k, e < k → qB.l0 k n out s a b = some (r, a', b') := by
 induction e with
 | zero =>
  intro out a b hS hl h0 h1;refine ⟨out, a, b, hS, by omega, h0, by omega, fun k hk => ?_⟩;obtain ⟨k, rfl⟩ : ∃ q, k = q + 1 := ⟨k - 1, by omega⟩;simp only [qB.l0];rw [if_neg (by omega)]
 | succ e ih =>
  intro out a b hS hl h0 h1;obtain ⟨v, a1, b1, ep, v0, v1, g0, g1⟩ := Qv hs a b (out.length : Int) h0 (by omega) (by omega);have hS1 := hS.1;have v2 := v1 (by omega);obtain ⟨p, rfl⟩ : ∃ p : Nat, v = p := ⟨v.toNat, by omega⟩;have hp : p < out.length := (by omega);have hl2 := stepL_len out p hp;obtain ⟨r, a', b', r1, r2, r3, r4, r5⟩ := ih (stepL out p) a1 b1 (stepL_sure out p hS hp (by omega)) (by omega) g0 (by omega);refine ⟨r, a', b', r1, r2, r3, by omega, fun k hk => ?_⟩;obtain ⟨k, rfl⟩ : ∃ q, k = q + 1 := ⟨k - 1, by omega⟩;rw [stepL_tells n k out p a b a1 b1 hp (by omega) (by omega) ep];exact r5 k (by omega)
theorem sure_is {s : List Int} (hs : Bytes s) (n a b : Int) (hn : 3 ≤ n ∧ n ≤ 10) (h0 : 0 ≤ a) (h1 : a ≤ 900) : ∃ r a' b', Sure r ∧ (r.length : Int) = n ∧ 0 ≤ a' ∧ a' ≤ a + 10 ∧ ∀ k, 20 < k → qB.f k s a b n = some (r, a', b') := by
 obtain ⟨r, a', b', r1, r2, r3, r4, r5⟩ := sure_rounds hs n hn.2 (n - 3).toNat [1, 1, 1] a b ⟨by simp, by simp⟩ (by simp; omega) h0 (by omega);exact ⟨r, a', b', r1, r2, r3, by omega, fun k hk => r5 k (by omega)⟩

theorem sure_hq {out : List Int} (hS : Sure out) (hl : out.length ≤ 100) : ∀ c : Int, 0 ≤ c → c < (out.length : Int) → -9223372036854775808 ≤ rd out c ∧ rd out c ≤ 9223372036854775807 := by
 intro c c0 c1
 have h : rd out c ∈ out := by
  unfold rd;rw [List.getD_eq_getElem?_getD, List.getElem?_eq_getElem (by omega)];exact List.getElem_mem _
 have := hS.2 _ h;omega
theorem poOf_ev {out : List Int} (hS : Sure out) (hl : out.length ≤ 100) : ∃ r ok, r.length ≤ 12 ∧ ∀ k, 1100001 ≤ k → qp.f k out = some (r, ok) := by
 obtain ⟨r, hr, h⟩ := poOf_tells out (sure_hq hS hl) (by omega) 1100001 (by omega);exact ⟨r, _, hr, fun k hk => at_rounds (fun k => qp.mono out k) hk h⟩
theorem drawL_is {s : List Int} (hs : Bytes s) : ∃ m ds, ds.length ≤ 13 ∧ ∀ k, 1100001 ≤ k → yE.f k s = some (m, ds) := by
 obtain ⟨p, a1, b1, e1, p0, p1, g0, g1⟩ := Qv hs 0 0 (wrap64 (10 - 2)) (by omega) (by omega) (by unfold wrap64; omega);have hw : wrap64 (10 - 2) = 8 := (by unfold wrap64; omega);have p2 : p < 8 := (by have := p1 (by rw [hw]; omega); rwa [hw] at this);have hn : wrap64 (3 + p) = 3 + p := (by clear e1 p1 hw; unfold wrap64; omega);obtain ⟨out, a2, b2, hS, hl, q0, q1, e2⟩ := sure_is hs (3 + p) a1 b1 (by clear hn hw; omega) g0 (by clear hn hw; omega);obtain ⟨ds, ok, hds, e3⟩ := poOf_ev hS (by clear hn hw; omega);obtain ⟨v, a3, b3, e4, v0, v1, t0, t1⟩ := Qv hs a2 b2 16 q0 (by clear hn hw; omega) (by omega)
 have key : ∀ m ds' a b, (∀ k, 1100001 ≤ k → vJ.f k s 0 0 10 = some (m, ds', a, b)) → ∀ k, 1100001 ≤ k → yE.f k s = some (m, ds') := fun m ds' a b h k hk => by
  unfold yE.f vZ.f;rw [h k hk];rfl
 have head : ∀ k, 1100001 ≤ k → vJ.f k s 0 0 10 = (if v = 0 then (if (ds.length : Int) > 0 then ((qG.f s a3 b3 (ds.length : Int)).bind fun bt500 => ((zy.f s bt500.2.1 bt500.2.2 (([(-1), 0, 1] : List Int))).bind fun bt506 => ((zy.f s bt506.2.1 bt506.2.2 (([1, 2, 3, 3 + p, 4611686018427387904] : List Int))).bind fun bt512 => (if 0 ≤ bt500.1 then (if bt500.1 < (ds.length : Int) then (some (3 + p, (ds.set (bt500.1 : Int).toNat (⟨bt506.1, bt512.1⟩ : DG)), bt512.2.1, bt512.2.2)) else (none)) else (none))))) else (some (3 + p, ds, a3, b3))) else (if v = 1 then ((zy.f s a3 b3 (([(-1), 2, wrap64 (3 + p + 1), 4611686018427387904] : List Int))).bind fun bt519 => (some (bt519.1, ds, bt519.2.1, bt519.2.2))) else (if v = 2 then (if ds.length < 8796093022208 then (some (3 + p, (ds ++ [(⟨0, 2⟩ : DG)]), a3, b3)) else (none)) else (some (3 + p, ds, a3, b3))))) := fun k hk => by
  unfold vJ.f;rw [e1, Option.bind_some];dsimp only;rw [hn, e2 k (Nat.lt_of_lt_of_le (by decide) hk), Option.bind_some];dsimp only;rw [e3 k hk, Option.bind_some, e4, Option.bind_some]
 clear hn hw;by_cases c0 : v = 0
 ·by_cases c1 : (ds.length : Int) > 0
  ·obtain ⟨i, a4, b4, e5, i0, i1, u0, u1⟩ := Qv hs a3 b3 (ds.length : Int) t0 (by omega) (by omega);have i2 := i1 (by omega);obtain ⟨x, a5, b5, e6, _, w0, w1⟩ := QE hs a4 b4 u0 (by omega) [-1, 0, 1] (by simp);obtain ⟨y, a6, b6, e7, _, _, _⟩ := QE hs a5 b5 w0 (by omega) [1, 2, 3, 3 + p, 4611686018427387904] (by simp);refine ⟨3 + p, ds.set i.toNat ⟨x, y⟩, by rw [List.length_set]; omega, key _ _ a6 b6 fun k hk => ?_⟩;rw [head k hk, if_pos c0, if_pos c1, e5, Option.bind_some, e6, Option.bind_some, e7, Option.bind_some, if_pos i0, if_pos i2]
  ·refine ⟨3 + p, ds, by omega, key _ _ a3 b3 fun k hk => ?_⟩;rw [head k hk, if_pos c0, if_neg c1]
 ·by_cases c1 : v = 1
  ·obtain ⟨x, a5, b5, e6, _, w0, w1⟩ := QE hs a3 b3 t0 (by omega) [-1, 2, wrap64 (3 + p + 1), 4611686018427387904] (by simp);refine ⟨x, ds, by omega, key _ _ a5 b5 fun k hk => ?_⟩;rw [head k hk, if_neg c0, if_pos c1, e6, Option.bind_some]
  ·by_cases c2 : v = 2
   ·refine ⟨3 + p, ds ++ [⟨0, 2⟩], by rw [List.length_append, List.length_singleton]; omega, key _ _ a3 b3 fun k hk => ?_⟩;rw [head k hk, if_neg c0, if_neg c1, if_pos c2, if_pos (Nat.lt_of_le_of_lt hds (by decide))]
   ·refine ⟨3 + p, ds, by omega, key _ _ a3 b3 fun k hk => ?_⟩;rw [head k hk, if_neg c0, if_neg c1, if_neg c2]
/-- The list that DrawRankOfQuiddity makes: short, of ints. -/
def Small (q : List Int) : Prop := q.length ≤ 100 ∧ ∀ x ∈ q, -9223372036854775808 ≤ x ∧ x ≤ 9223372036854775807
theorem small_hq {q : List Int} (h : Small q) : ∀ c : Int, 0 ≤ c → c < (q.length : Int) → -9223372036854775808 ≤ rd q c ∧ rd q c ≤ 9223372036854775807 := by
 intro c c0 c1;refine h.2 _ ?_;unfold rd;rw [List.getD_eq_getElem?_getD, List.getElem?_eq_getElem (by omega)];exact List.getElem_mem _
theorem small_set {q : List Int} (h : Small q) (i : Nat) (x : Int) (hx : -9223372036854775808 ≤ x ∧ x ≤ 9223372036854775807) : Small (q.set i x) := by
 refine ⟨by rw [List.length_set]; exact h.1, fun y hy => ?_⟩;rcases List.mem_or_eq_of_mem_set hy with h2 | h2
 ·exact h.2 y h2
 ·rw [h2]; exact hx
theorem drawQ_is {s : List Int} (hs : Bytes s) : ∃ q, Small q ∧ ∀ k, 20 < k → jR.f k s = some q := by
 obtain ⟨p, a1, b1, e1, p0, p1, g0, g1⟩ := Qv hs 0 0 (wrap64 (8 - 2)) (by omega) (by omega) (by unfold wrap64; omega);have hw : wrap64 (8 - 2) = 6 := (by unfold wrap64; omega);have p2 : p < 6 := (by have := p1 (by rw [hw]; omega); rwa [hw] at this);have hn : wrap64 (3 + p) = 3 + p := (by clear e1 p1 hw; unfold wrap64; omega);obtain ⟨out, a2, b2, hS, hl, q0, q1, e2⟩ := sure_is hs (3 + p) a1 b1 (by clear hn hw; omega) g0 (by clear hn hw; omega);obtain ⟨v, a3, b3, e4, v0, v1, t0, t1⟩ := Qv hs a2 b2 14 q0 (by clear hn hw; omega) (by omega);have hsm : Small out := ⟨by clear hn hw; omega, fun x hx => by have := hS.2 x hx; clear hn hw; omega⟩
 have key : ∀ r a b, (∀ k, 20 < k → yZ.f k s 0 0 8 = some (r, a, b)) → ∀ k, 20 < k → jR.f k s = some r := fun r a b h k hk => by
  unfold jR.f;rw [h k hk];rfl
 have head : ∀ k, 20 < k → yZ.f k s 0 0 8 = (if v = 0 then ((qG.f s a3 b3 (out.length : Int)).bind fun bt692 => ((zy.f s bt692.2.1 bt692.2.2 (([(-1), 0, 1, 2, 13, 4611686018427387904] : List Int))).bind fun bt698 => (if 0 ≤ bt692.1 then (if bt692.1 < (out.length : Int) then (some ((out.set (bt692.1 : Int).toNat bt698.1), bt698.2.1, bt698.2.2)) else (none)) else (none)))) else (if v = 1 then (if 1 ≤ (out.length : Int) then (some ((out.drop (1 : Int).toNat), a3, b3)) else (none)) else (if v = 2 then (if 0 < (out.length : Int) then (if 1 < (out.length : Int) then (some (((out.set (0 : Int).toNat (rd out 1)).set (1 : Int).toNat (rd out 0)), a3, b3)) else (none)) else (none)) else (some (out, a3, b3))))) := fun k hk => by
  unfold yZ.f;rw [e1, Option.bind_some];dsimp only;rw [hn, e2 k hk, Option.bind_some];dsimp only;rw [e4, Option.bind_some]
 clear hn hw;have hS1 := hS.1;by_cases c0 : v = 0
 ·obtain ⟨i, a4, b4, e5, i0, i1, u0, u1⟩ := Qv hs a3 b3 (out.length : Int) t0 (by omega) (by omega);have i2 := i1 (by omega);obtain ⟨x, a5, b5, e6, hx, w0, w1⟩ := QE hs a4 b4 u0 (by omega) [-1, 0, 1, 2, 13, 4611686018427387904] (by simp);refine ⟨out.set i.toNat x, small_set hsm _ _ (by simp only [List.mem_cons, List.not_mem_nil, or_false] at hx; omega), key _ a5 b5 fun k hk => ?_⟩;rw [head k hk, if_pos c0, e5, Option.bind_some, e6, Option.bind_some, if_pos i0, if_pos i2]
 ·by_cases c1 : v = 1
  ·refine ⟨out.drop (1 : Int).toNat, ⟨Nat.le_trans (by simp) hsm.1, fun x hx => hsm.2 x (List.mem_of_mem_drop hx)⟩, key _ a3 b3 fun k hk => ?_⟩;rw [head k hk, if_neg c0, if_pos c1, if_pos (by omega)]
  ·by_cases c2 : v = 2
   ·refine ⟨(out.set (0 : Int).toNat (rd out 1)).set (1 : Int).toNat (rd out 0), small_set (small_set hsm _ _ (small_hq hsm 1 (by omega) (by omega))) _ _ (small_hq hsm 0 (by omega) (by omega)), key _ a3 b3 fun k hk => ?_⟩;rw [head k hk, if_neg c0, if_neg c1, if_pos c2, if_pos (by omega), if_pos (by omega)]
   ·refine ⟨out, hsm, key _ a3 b3 fun k hk => ?_⟩;rw [head k hk, if_neg c0, if_neg c1, if_neg c2]

end Go.Proofs.YtgblginphicacaaGreat.PureFnClassesTold

set_option linter.unusedSimpArgs false
set_option linter.unnecessarySimpa false
set_option linter.unusedVariables false
namespace Go.Proofs.YtgblginphicacaaGreat.PureFnClassesTold
open Go.RowKit Go.Proofs.YtgblginphicacaaGreat.PFnClassesTold Go.Proofs.YtgblginphicacaaGreatW.PrintWords Go.Proofs.YtgblginphicacaaGreatW.PrintLast

/-! The second half: quiddities. -/
theorem l3_ev {R : List (List Int)} {N : Nat} (hR : R.length ≤ 1000) (hN : N ≤ 100) (hx : ∀ x ∈ R, x.length = N) (hp : R.Pairwise fun a b => a < b) {KQ : Nat} (hQ : ∀ x ∈ R, ∀ k, KQ ≤ k → jC.f k x = some true) (q : List Int) (rk : Int) (ok : Bool) {KE : Nat}
  (hE : ∀ k, KE ≤ k → (if ok = true then ((zU.f k (q.length : Int)).bind fun bt907 => (if bt907.2 = true then (if rk < (bt907.1.length : Int) then (if 0 ≤ rk then ((jP.f k (vQ bt907.1 rk) q).bind fun t912 => (some t912)) else (none)) else (some false)) else (some false))) else (some true)) = some true) (e : Nat) :
  ∀ i : Nat, i + e = R.length → ∀ k, KQ + KE + 2000 + e < k → qg.l3 k R q rk ok R (R.length : Int) (i : Int) = some true := by
 have get : ∀ i (h : i < R.length), vQ R (i : Int) = R[i] := fun i h => by rw [J4 R i h, List.getD_eq_getElem?_getD, List.getElem?_eq_getElem h]; rfl
 induction e with
 | zero =>
  intro i hi k hk;obtain ⟨k, rfl⟩ : ∃ q, k = q + 1 := ⟨k - 1, by omega⟩;simp only [qg.l3];rw [if_neg (by omega)];exact hE k (by omega)
 | succ e ih =>
  intro i hi k hk;obtain ⟨k, rfl⟩ : ∃ q, k = q + 1 := ⟨k - 1, by omega⟩;have hlt : i < R.length := (by omega);have c0 : (i : Int) < (R.length : Int) := (by omega);have c1 : (0 : Int) ≤ (i : Int) := (by omega);have nx := ih (i + 1) (by omega) k (by omega);have hq := hQ R[i] (List.getElem_mem _) k (by omega);have w := zK i (by omega);simp only [qg.l3];rw [if_pos c0, if_pos c1, if_pos c0, get i hlt, hq, Option.bind_some, if_pos rfl, w];by_cases h0 : (i : Int) > 0
  ·obtain ⟨j, rfl⟩ : ∃ j, i = j + 1 := ⟨i - 1, by omega⟩;have hlj : j < R.length := (by omega);have wj : wrap64 (((j + 1 : Nat) : Int) - 1) = (j : Int) := (by clear w; unfold wrap64; omega);have d0 : (0 : Int) ≤ (j : Int) := Int.natCast_nonneg j;have d1 : (j : Int) < (R.length : Int) := Int.ofNat_lt.2 hlj;have hl := hx R[j] (List.getElem_mem _);have hl2 := hx R[j + 1] (List.getElem_mem _);have hlt2 := List.pairwise_iff_getElem.1 hp j (j + 1) hlj hlt (Nat.lt_succ_self j);rw [if_pos h0, wj, if_pos d0, if_pos d1, get j hlj, dLess_is R[j] R[j + 1] (hl.trans hl2.symm) (by rw [hl]; clear w wj; omega) k (by rw [hl]; clear w wj; omega), Option.bind_some, decide_eq_true hlt2, if_pos rfl];exact nx
  ·rw [if_neg h0];exact nx
theorem j9_ev {s : List Int} (hs : Bytes s) : ∃ K, ∀ k, K ≤ k → qg.j9 k s = some true := by
 obtain ⟨n, en, _, _⟩ := drawN_is hs;have en2 : yQ.f s = some n := (by unfold yQ.f; rw [en]; rfl);obtain ⟨x, y, es⟩ := drawS_is hs;obtain ⟨q, hq, eq⟩ := drawQ_is hs;have hql := hq.1;obtain ⟨K1, rk, ok, hok, hrk⟩ := rank_is q (by omega) (small_hq hq)
 have hsym : ∃ c b, ∀ k, 1100000 ≤ k → qD.f k x y = some (c, b) ∧ qW.f k x y = some (c, b) := by
  by_cases h : (3 ≤ x ∧ x ≤ 8) ∧ 1 ≤ y ∧ y ≤ x - 1
  ·exact ⟨_, _, Q0 x y h.1 h.2⟩
  ·exact ⟨_, _, fun k hk => Jt x y h k (by omega)⟩
 obtain ⟨c, b, hc⟩ := hsym
 have hall : ∃ (R : List (List Int)) (N : Nat) (okR : Bool), R.length ≤ 1000 ∧ N ≤ 100 ∧ (∀ x ∈ R, x.length = N) ∧ R.Pairwise (fun a b => a < b) ∧ (∃ KQ, ∀ x ∈ R, ∀ k, KQ ≤ k → jC.f k x = some true) ∧ ∀ k, 1100000 ≤ k → yC.f k n = some (R, okR) ∧ zU.f k n = some (R, okR) := by
  by_cases h : 3 ≤ n ∧ n ≤ 8
  ·obtain ⟨R, ⟨r1, r2, r3, r4⟩, hR⟩ := allQ_is n h;exact ⟨R, n.toNat, true, r1, by omega, r2, r3, r4, fun k hk => (hR k hk).2⟩
  ·exact ⟨[], 0, false, by simp, by omega, (fun x hx => by cases hx), List.Pairwise.nil, ⟨0, (fun x hx => by cases hx)⟩, fun k _ => allQ_no n h k⟩
 obtain ⟨R, N, okR, r1, hN, r2, r3, ⟨KQ, r4⟩, hR⟩ := hall
 have hE : ∀ k, 1100000 ≤ k → (if ok = true then ((zU.f k (q.length : Int)).bind fun bt907 => (if bt907.2 = true then (if rk < (bt907.1.length : Int) then (if 0 ≤ rk then ((jP.f k (vQ bt907.1 rk) q).bind fun t912 => (some t912)) else (none)) else (some false)) else (some false))) else (some true)) = some true := fun k hk => by
  by_cases h : ok = true
  ·obtain ⟨⟨l1, l2⟩, rk0, R', s1, s2, s3, s4, s5⟩ := hok h;have h38 : 3 ≤ (q.length : Int) ∧ (q.length : Int) ≤ 8 := by omega
   have e1 : zU.f k (q.length : Int) = some (R', true) := by
    simp [zU.f, qw.f, yF, h38, s3 k hk]
   have e2 : vQ R' rk = q := by
    rw [← s5];rfl
   rw [if_pos h, e1, Option.bind_some, if_pos rfl, if_pos s4, if_pos rk0, e2, dSame_is q (by omega) k (by omega)];rfl
  ·rw [if_neg h]
 have hl3 := l3_ev r1 hN r2 r3 r4 q rk ok hE R.length 0 (by omega);refine ⟨K1 + KQ + 3000000, fun k hk => ?_⟩;obtain ⟨k, rfl⟩ : ∃ q, k = q + 2 := ⟨k - 2, by omega⟩;have g1 := hR (k + 1) (by omega);have g2 := eq (k + 1) (by omega);have g3 := hrk (k + 1) (by omega);have g4 := hc (k + 1) (by omega);have g5 := dLists_is R (by omega) (fun x hx => by rw [r2 x hx]; omega) (k + 1) (by omega);have g6 := hl3 k (by omega)
 have hj : qg.j10 (k + 1) R q rk ok false = some true := by
  simp only [qg.j10];rw [if_neg (by simp)];exact g6
 simp only [qg.j9];rw [en2, Option.bind_some, g1.2, Option.bind_some, g1.1, Option.bind_some, g2, Option.bind_some, g3.2, Option.bind_some, g3.1, Option.bind_some, es, Option.bind_some, g4.2, Option.bind_some, g4.1, Option.bind_some];dsimp only;rw [bne_self_eq_false, if_neg (by simp), g5, Option.bind_some, if_pos rfl, bne_self_eq_false, if_neg (by simp), if_pos rfl, bne_self_eq_false, if_neg (by simp), bne_self_eq_false];exact hj
/-! The second half: one triangulation. -/
theorem l2_ev {s : List Int} (hs : Bytes s) (m : Int) (ds : List DG) (T : Tri m ds) (e : Nat) : ∀ i : Nat, (i : Int) + e = m → ∃ K, ∀ k, K ≤ k → qg.l2 k s m ds (jE m ds) (i : Int) = some true := by
 have hn := T.n3;have hsm := T.Jq
 induction e with
 | zero =>
  intro i hi;obtain ⟨K, hK⟩ := j9_ev hs;refine ⟨K + 1, fun k hk => ?_⟩;obtain ⟨k, rfl⟩ : ∃ q, k = q + 1 := ⟨k - 1, by omega⟩;simp only [qg.l2];rw [if_neg (by omega)];exact hK k (by omega)
 | succ e ih =>
  intro i hi;obtain ⟨K, hK⟩ := ih (i + 1) (by omega);obtain ⟨K1, h1⟩ := QF m ds (by omega);have tl := Qh m (i : Int) ds;have ll := xD m ds;have T2 := tri_turn T (k := (i : Int)) (by omega);obtain ⟨K2, h2⟩ := QF m (xR m (i : Int) ds) (by omega);refine ⟨K + K1 + K2 + 2000, fun k hk => ?_⟩;obtain ⟨k, rfl⟩ : ∃ q, k = q + 1 := ⟨k - 1, by omega⟩;have g1 := (h1 k (by omega)).2.2.2.2.2.2.2.2 (i : Int) (by omega) (by omega);have g2 := (h2 k (by omega)).2.2.2.1;rw [QT T] at g1;rw [QT T2, leastL_turn (by omega) (tri_srt T) (by omega)] at g2;have g3 := hK k (by omega);have c0 : (i : Int) < m := (by omega);have g4 := Qs (jE m ds) (jE m ds) (by omega) k (by omega);simp only [qg.l2];rw [if_pos c0, g1, Option.bind_some];dsimp only [ifT];rw [if_pos rfl, g2, Option.bind_some];dsimp only [ifT];rw [if_pos rfl, if_pos rfl, if_pos rfl, g4, Zv, Option.bind_some, if_pos rfl, zK i (by omega)];exact g3
theorem eqL_comm (l m : List DG) : eqL l m = eqL m l := by
 rw [Bool.eq_iff_iff, ZK, ZK];exact eq_comm
theorem j5_ev {s : List Int} (hs : Bytes s) : ∃ K, ∀ k, K ≤ k → qg.j5 k s = some true := by
 obtain ⟨m, ds, hds, ed⟩ := drawL_is hs;obtain ⟨K1, h1⟩ := QF m ds (by omega);have l1 := classL_len m ds;have l2 := xD m ds
 have hj6 : ∃ K, ∀ k, K ≤ k → qg.j6 k s m ds (ifT (vE m ds) (uB m ds)) (vE m ds) (ifT (vE m ds) (jE m ds)) (vE m ds && eqL (jE m ds) (jE m (wO m ds))) false = some true := by
  cases hb : vE m ds
  ·obtain ⟨K, hK⟩ := j9_ev hs;refine ⟨K + 1, fun k hk => ?_⟩;obtain ⟨k, rfl⟩ : ∃ q, k = q + 1 := ⟨k - 1, by omega⟩;simp only [qg.j6];rw [if_neg (by simp), if_neg (by simp)];exact hK k (by omega)
  ·have T := tri_of m ds hb;have hn := T.n3;have TM := tri_mir T;have lm := Z7 m ds;have l3 := xD m (wO m ds);obtain ⟨K2, h2⟩ := QF m (wO m ds) (by omega);obtain ⟨K3, h3⟩ := l2_ev hs m ds T m.toNat 0 (by omega);refine ⟨K1 + K2 + K3 + 3000, fun k hk => ?_⟩;obtain ⟨k, rfl⟩ : ∃ q, k = q + 2 := ⟨k - 2, by omega⟩;have a1 := h1 (k + 1) (by omega);have a2 := h2 (k + 1) (by omega);rw [hb] at a1;rw [QT TM] at a2;have g1 := a1.2.2.2.2.2.2.2.1;have g2 := a2.2.1;have g3 := a2.2.2.2.1;rw [classL_mir (tri_srt T)] at g2;have g4 := Qs (uB m ds) (uB m ds) (by omega) (k + 1) (by omega);rw [Zv] at g4;have g5 := Qs (jE m (wO m ds)) (jE m ds) (by omega) (k + 1) (by omega);have g6 := Jj (jE m ds) (uB m ds) (by omega) (by omega) (k + 1) (by omega);rw [classL_not] at g6;have g7 := Jj ds (jE m ds) (by omega) (by omega) (k + 1) (by omega);rw [leastL_not (by omega) (tri_srt T)] at g7
   have hj : qg.j7 (k + 1) s m ds (jE m ds) false = some true := by
    simp only [qg.j7];rw [if_neg (by simp)];exact h3 k (by omega)
   simp only [qg.j6, ifT, if_true];rw [if_neg (by simp), g1, Option.bind_some];dsimp only [ifT];rw [if_pos rfl, g2, Option.bind_some, g3, Option.bind_some];dsimp only [ifT];rw [if_pos rfl, if_pos rfl, if_pos rfl, if_pos rfl, if_pos rfl, g4, Option.bind_some, if_pos rfl, g5, Option.bind_some, eqL_comm (jE m (wO m ds)), Bool.true_and, bne_self_eq_false, if_neg (by simp), g6, Option.bind_some, if_neg (by simp), g7, Option.bind_some];exact hj
 obtain ⟨K2, h2⟩ := hj6;refine ⟨K1 + K2 + 1200000, fun k hk => ?_⟩;obtain ⟨k, rfl⟩ : ∃ q, k = q + 1 := ⟨k - 1, by omega⟩;obtain ⟨b0, b1, b2, b3, b4, b5, b6, _, _⟩ := h1 k (by omega)
 have lc : (ifT (vE m ds) (uB m ds)).length ≤ 13 := by
  unfold ifT;split
  ·omega
  ·simp
 have ll : (ifT (vE m ds) (jE m ds)).length ≤ 13 := by
  unfold ifT;split
  ·omega
  ·simp
 have g1 := Qs (ifT (vE m ds) (uB m ds)) (ifT (vE m ds) (uB m ds)) (by omega) k (by omega);have g2 := Qs (ifT (vE m ds) (jE m ds)) (ifT (vE m ds) (jE m ds)) (by omega) k (by omega);rw [Zv] at g1 g2;have g3 := h2 k (by omega);simp only [qg.j5];rw [ed k (by omega), Option.bind_some];dsimp only;rw [b1, Option.bind_some, b2, Option.bind_some, b3, Option.bind_some, b4, Option.bind_some, b5, Option.bind_some, b6, Option.bind_some];dsimp only;rw [bne_self_eq_false, if_neg (by simp), g1, Option.bind_some, if_pos rfl, if_neg (by simp), g2, Option.bind_some, if_pos rfl, if_neg (by simp), bne_self_eq_false, if_neg (by simp), b0, Option.bind_some, if_neg (by simp), if_neg (by simp)];exact g3

/-! The first half: all classes of few corners. -/
theorem chk3 : chkL 3 = true := by kernel_rfl
theorem chk4 : chkL 4 = true := by kernel_rfl
theorem chk5 : chkL 5 = true := by kernel_rfl
theorem chk6 : chkL 6 = true := by kernel_rfl
theorem chk7 : chkL 7 = true := by kernel_rfl
theorem chk8 : chkL 8 = true := by kernel_rfl
theorem chk_all (n : Int) (hn : 3 ≤ n ∧ n ≤ 8) : chkL n = true := by
 have : n = 3 ∨ n = 4 ∨ n = 5 ∨ n = 6 ∨ n = 7 ∨ n = 8 := (by omega);rcases this with rfl | rfl | rfl | rfl | rfl | rfl
 ·exact chk3
 ·exact chk4
 ·exact chk5
 ·exact chk6
 ·exact chk7
 ·exact chk8
theorem tri_count (n : Int) (hn : 3 ≤ n ∧ n ≤ 8) : ∀ k, 40 ≤ k → zH.f k n = some (((jZ n).length : Int), true) := by
 have h : zH.f 40 n = some (((jZ n).length : Int), true) := by
  have : n = 3 ∨ n = 4 ∨ n = 5 ∨ n = 6 ∨ n = 7 ∨ n = 8 := (by omega);rcases this with rfl | rfl | rfl | rfl | rfl | rfl <;> decide +kernel
 exact fun k hk => at_rounds (fun k => zH.mono n k) hk h
theorem sumL_succ (n : Int) (m : Nat) : sumL n (m + 1) = sumL n m + symL n ((m : Int) + 1) := by
 unfold sumL;rw [List.range_succ, List.foldl_append];rfl
theorem symL_le (n k : Int) : symL n k ≤ (jZ n).length := List.length_filter_le ..
theorem sumL_le (n : Int) (m : Nat) : sumL n m ≤ (m + 1) * (jZ n).length := by
 induction m with
 | zero => unfold sumL; simp
 | succ m ih =>
  have h := symL_le n ((m : Int) + 1);rw [sumL_succ, Nat.add_mul (m + 1) 1, Nat.one_mul];omega
theorem risL_at : ∀ (l : List (List DG)), risL l = true → ∀ j (h : j + 1 < l.length), uX (l[j]'(by omega)) l[j + 1] = true
 | [], _, j, h => by simp at h
 | [_], _, j, h => by simp at h
 | a :: b :: r, hr, j, h => by
  unfold risL at hr;rw [Bool.and_eq_true] at hr
  match j with
  | 0 => exact hr.1
  | j + 1 => exact risL_at (b :: r) hr.2 j (by simpa using h)
def ownP (n : Int) (x : List DG) : Bool := eqL (jE n x) (jE n (wO n x))
theorem l1_ev {s : List Int} (hs : Bytes s) (n : Int) (hn : 3 ≤ n ∧ n ≤ 8) (e : Nat) : ∀ i : Nat, i + e = (xw n).length → ∃ K, ∀ k, K ≤ k → qg.l1 k s n (xw n) ((xw n).length : Int) (Q9 n : Int) (sumL n (n.toNat - 1) : Int) ((((xw n).take i).filter (ownP n)).length : Int) (xw n) ((xw n).length : Int) (i : Int) = some true := by
 have hchk := chk_all n hn;unfold chkL at hchk;simp only [Bool.and_eq_true, decide_eq_true_eq, beq_iff_eq] at hchk;obtain ⟨⟨⟨⟨c1, c2⟩, c3⟩, c4⟩, c5⟩ := hchk;have hts := wL n hn;have hcl : (xw n).length ≤ (jZ n).length := List.length_filter_le ..;have htl : Q9 n ≤ (jZ n).length := List.length_filter_le ..
 have hmem : ∀ x ∈ xw n, x ∈ jZ n ∧ uB n x = x := fun x hx => by
  have h := List.mem_filter.1 hx;exact ⟨h.1, (ZK _ _).1 h.2⟩
 induction e with
 | zero =>
  intro i hi;obtain ⟨K, hK⟩ := j5_ev hs;refine ⟨K + 1, fun k hk => ?_⟩;obtain ⟨k, rfl⟩ : ∃ q, k = q + 1 := ⟨k - 1, by omega⟩;have g := hK k (by omega);have hi' : i = (xw n).length := (by omega);subst hi';have ho : (((xw n).take (xw n).length).filter (ownP n)).length = ownL n := by rw [List.take_length]; rfl
  have hm : (Q9 n : Int) * n = ((Q9 n * n.toNat : Nat) : Int) := by
   rw [Int.natCast_mul, Int.toNat_of_nonneg (by omega)]
  have hb : Q9 n * n.toNat ≤ 1048576 * 8 := Nat.mul_le_mul (by omega) (by omega)
  have w1 : wrap64 ((Q9 n : Int) * n) = (sumL n (n.toNat - 1) : Int) := by
   rw [hm, c3];generalize Q9 n * n.toNat = z at hb ⊢;clear hm c1 c2 c3 c4 ho;unfold wrap64;omega
  have ho2 : ownL n ≤ (xw n).length := List.length_filter_le ..
  have w2 : wrap64 (wrap64 (2 * ((xw n).length : Int)) - (ownL n : Int)) = (Q9 n : Int) := by
   generalize (xw n).length = a at *;generalize Q9 n = b at *;generalize ownL n = c at *;clear w1 hm hb c3 ho;unfold wrap64;omega
  simp only [qg.l1];rw [if_neg (by omega), w1, if_pos rfl, ho, w2, if_pos rfl];exact g
 | succ e ih =>
  intro i hi;have hlt : i < (xw n).length := (by omega);obtain ⟨K, hK⟩ := ih (i + 1) (by omega);obtain ⟨hx1, hx2⟩ := hmem (xw n)[i] (List.getElem_mem _);have T := Qq n hn _ hx1;have hl := T.Jq;obtain ⟨K1, h1⟩ := QF n (xw n)[i] (by omega);refine ⟨K + K1 + 2000, fun k hk => ?_⟩;obtain ⟨k, rfl⟩ : ∃ q, k = q + 2 := ⟨k - 2, by omega⟩;have a := h1 (k + 1) (by omega);rw [QT T, Bool.true_and] at a;have g1 := a.2.1;have g2 := a.2.2.2.2.2.1;rw [hx2] at g1;have g3 := Qs (xw n)[i] (xw n)[i] (by omega) (k + 1) (by omega);rw [Zv] at g3;have g4 := hK k (by omega);have c0 : (i : Int) < ((xw n).length : Int) := (by omega);have d0 : (0 : Int) ≤ (i : Int) := Int.natCast_nonneg i
  have hcnt : (((xw n).take (i + 1)).filter (ownP n)).length = (((xw n).take i).filter (ownP n)).length + if ownP n (xw n)[i] = true then 1 else 0 := by
   rw [List.take_succ_eq_append_getElem hlt, List.filter_append, List.length_append, List.filter_cons];split <;> simp
  have hle : (((xw n).take i).filter (ownP n)).length ≤ 1048576 := Nat.le_trans (List.length_filter_le ..) (by rw [List.length_take]; omega)
  have hj : qg.j4 (k + 1) s n (xw n) ((xw n).length : Int) (Q9 n : Int) (sumL n (n.toNat - 1) : Int) ((((xw n).take i).filter (ownP n)).length : Int) (ownP n (xw n)[i]) (xw n) ((xw n).length : Int) (i : Int) false = some true := by
   have ws := zK i (by omega);have wc := zK (((xw n).take i).filter (ownP n)).length (by omega);simp only [qg.j4];rw [if_neg (by simp), ws];cases ho : ownP n (xw n)[i] with
   | true =>
    rw [ho, if_pos rfl] at hcnt;rw [if_pos rfl, wc, ← hcnt];exact g4
   | false =>
    rw [ho] at hcnt;simp only [Bool.false_eq_true, if_false, Nat.add_zero] at hcnt;rw [if_neg (by simp), ← hcnt];exact g4
  simp only [qg.l1];rw [if_pos c0, if_pos d0, if_pos c0, Zl (xw n) i hlt, g1, Option.bind_some, g2, Option.bind_some];dsimp only [ifT];rw [if_pos rfl, if_pos rfl, g3, Option.bind_some, if_pos rfl, if_pos rfl];by_cases h0 : (i : Int) > 0
  ·obtain ⟨j, rfl⟩ : ∃ j, i = j + 1 := ⟨i - 1, by omega⟩;have hlj : j < (xw n).length := by omega
   have wj : wrap64 (((j + 1 : Nat) : Int) - 1) = (j : Int) := by
    clear g4 hcnt hle hj;unfold wrap64;omega
   have e0 : (0 : Int) ≤ (j : Int) := Int.natCast_nonneg j;have e1 : (j : Int) < ((xw n).length : Int) := Int.ofNat_lt.2 hlj;have hy := Qq n hn _ (hmem (xw n)[j] (List.getElem_mem _)).1;have hb := Jj (xw n)[j] (xw n)[j + 1] (by have := hy.len; have := T.len; clear wj; omega) (by have := hy.Jq; clear wj; omega) (k + 1) (by have := hy.Jq; clear wj; omega);rw [risL_at (xw n) c5 j hlt] at hb;rw [if_pos h0, wj, if_pos e0, if_pos e1, Zl (xw n) j hlj, hb, Option.bind_some];exact hj
  ·rw [if_neg h0];exact hj
theorem l0_ev {s : List Int} (hs : Bytes s) (n : Int) (hn : 3 ≤ n ∧ n ≤ 8) (e : Nat) : ∀ i : Nat, i + e = n.toNat - 1 → ∃ K, ∀ k, K ≤ k → qg.l0 k s n (xw n) ((xw n).length : Int) (Q9 n : Int) (sumL n i : Int) ((i + 1 : Nat) : Int) = some true := by
 have hts := wL n hn
 induction e with
 | zero =>
  intro i hi;obtain ⟨K, hK⟩ := l1_ev hs n hn (xw n).length 0 (by omega);refine ⟨K + 1, fun k hk => ?_⟩;obtain ⟨k, rfl⟩ : ∃ q, k = q + 1 := ⟨k - 1, by omega⟩;have g := hK k (by omega);have hi' : i = n.toNat - 1 := (by omega);subst hi';simp only [qg.l0];rw [if_neg (by omega)];exact g
 | succ e ih =>
  intro i hi;obtain ⟨K, hK⟩ := ih (i + 1) (by omega);refine ⟨K + 1100001, fun k hk => ?_⟩;obtain ⟨k, rfl⟩ : ∃ q, k = q + 1 := ⟨k - 1, by omega⟩;have g := hK k (by omega);have h1 := (Q0 n ((i + 1 : Nat) : Int) hn (by omega) k (by omega)).2;have h2 := sumL_le n (i + 1);have h3 : (i + 1 + 1) * (jZ n).length ≤ 9 * 1048576 := Nat.mul_le_mul (by omega) (by omega)
  have hsum : wrap64 ((sumL n i : Int) + (symL n ((i + 1 : Nat) : Int) : Int)) = (sumL n (i + 1) : Int) := by
   have h4 := sumL_succ n i;rw [show (i : Int) + 1 = ((i + 1 : Nat) : Int) by omega] at h4;rw [h4] at h2 ⊢;generalize symL n ((i + 1 : Nat) : Int) = a at h2 ⊢;generalize sumL n i = b at h2 ⊢;generalize (i + 1 + 1) * (jZ n).length = c at h2 h3;clear h4 g hK h1;unfold wrap64;omega
  have c0 : ((i + 1 : Nat) : Int) < n := (by clear hsum h2 h3; omega);simp only [qg.l0];rw [if_pos c0, h1, Option.bind_some];dsimp only;rw [if_pos rfl, hsum, zK (i + 1) (by clear hsum h2 h3; omega)];exact g
theorem j0_ev {s : List Int} (hs : Bytes s) (n : Int) (hn : 3 ≤ n ∧ n ≤ 8) : ∃ K, ∀ k, K ≤ k → qg.j0 k s n (xw n) true ((xw n).length : Int) (Q9 n : Int) false = some true := by
 obtain ⟨K, hK⟩ := l0_ev hs n hn (n.toNat - 1) 0 (by omega);have hchk := chk_all n hn;unfold chkL at hchk;simp only [Bool.and_eq_true, decide_eq_true_eq, beq_iff_eq] at hchk;obtain ⟨⟨⟨⟨c1, c2⟩, _⟩, _⟩, _⟩ := hchk;have hts := wL n hn;have hcl : (xw n).length ≤ (jZ n).length := List.length_filter_le ..;refine ⟨K + 50, fun k hk => ?_⟩;obtain ⟨k, rfl⟩ : ∃ q, k = q + 2 := ⟨k - 2, by omega⟩;have g := hK k (by omega);have hall := tri_count n hn (k + 1) (by omega)
 have hj : qg.j1 (k + 1) s n (xw n) ((xw n).length : Int) (Q9 n : Int) ((jZ n).length : Int) false = some true := by
  simp only [qg.j1];rw [if_neg (by simp)];exact g
 have d1 : ¬ ((xw n).length : Int) > (Q9 n : Int) := (by omega);have d2 : ¬ (Q9 n : Int) > 2 * ((xw n).length : Int) := by omega
 have w : wrap64 (2 * ((xw n).length : Int)) = 2 * ((xw n).length : Int) := by
  generalize (xw n).length = a at *;clear g hj d1 d2;unfold wrap64;omega
 simp only [qg.j0];rw [if_neg (by simp), if_pos trivial, hall, Option.bind_some];dsimp only;rw [if_pos trivial, if_neg d1, w, if_neg d2, Bool.not_true];exact hj
theorem FnClassesTold : qg.Pure := by
 intro l0 l1 _ _ b0 _ _ b1;by_cases h0 : (l0.length : Int) > 1048576
 ·refine ⟨0, ?_⟩;unfold qg.f wH.f;rw [if_pos h0, Option.bind_some, if_pos rfl]
 ·have w : wrap64 (1048576 - (l0.length : Int)) = 1048576 - (l0.length : Int) := by
   unfold wrap64;omega
  by_cases h1 : (l1.length : Int) > 1048576 - (l0.length : Int)
  ·refine ⟨0, ?_⟩;unfold qg.f wH.f;rw [if_neg h0, w, decide_eq_true h1, Option.bind_some, if_pos rfl]
  ·have hbig : wH.f l0 l1 = some false := by
    unfold wH.f;rw [if_neg h0, w, decide_eq_false h1]
   clear w
   have wf : ∀ x : Int, (Lit.int .u8 x).wf = true → 0 ≤ x ∧ x ≤ 255 := fun x h => by
    simp only [Lit.wf, Bool.and_eq_true, decide_eq_true_eq] at h;exact h
   have hs0 : Bytes l0 := ⟨by omega, fun x hx => wf x (b0 x hx)⟩;have hs1 : Bytes l1 := ⟨by omega, fun x hx => wf x (b1 x hx)⟩;obtain ⟨n, en, n2, n9⟩ := drawN_is hs0;have en2 : vR.f l0 = some n := (by unfold vR.f; rw [en]; rfl);by_cases hn : 3 ≤ n ∧ n ≤ 8
   ·obtain ⟨K, hK⟩ := j0_ev hs1 n hn;have hts := wL n hn;have hcl : (xw n).length ≤ (jZ n).length := List.length_filter_le ..
    have hx : ∀ x ∈ xw n, x.length ≤ 1000 := fun x hx => by
     have := (Qq n hn x (List.mem_filter.1 hx).1).Jq;omega
    refine ⟨K + 3000000, ?_⟩;have g1 := allClasses_is n hn (K + 3000000) (by omega);have g2 := countClasses_is n hn (K + 3000000) (by omega);have g3 := countTurned_is n hn (K + 3000000) (by omega);have g4 := dAll_is (xw n) (by omega) hx (K + 3000000) (by omega);have g5 := hK (K + 3000000) (by omega);generalize K + 3000000 = k at g1 g2 g3 g4 g5 ⊢;unfold qg.f;rw [hbig, Option.bind_some, if_neg (by simp), en2, Option.bind_some, g1.2, Option.bind_some, g1.1, Option.bind_some, g2.2, Option.bind_some, g2.1, Option.bind_some, g3.2, Option.bind_some, g3.1, Option.bind_some];dsimp only;rw [bne_self_eq_false, if_neg (by simp), g4, Option.bind_some, if_pos rfl, if_neg (by simp), if_pos rfl, if_neg (by simp), if_pos rfl, if_neg (by simp)];exact g5
   ·obtain ⟨K, hK⟩ := j5_ev hs1;refine ⟨K + 3000, ?_⟩;have g1 := allClasses_no n hn (K + 3000);have g2 := countClasses_no n hn (K + 3000);have g3 := countTurned_no n hn (K + 3000);have g4 := dAll_is [] (by simp) (fun x hx => by cases hx) (K + 3000) (by simp)
    have g5 : qg.j0 (K + 3000) l1 n [] false 0 0 false = some true := by
     rw [show K + 3000 = (K + 2999) + 1 from rfl];simp only [qg.j0];rw [if_neg (by simp), if_neg (by simp)];exact hK _ (by omega)
    generalize K + 3000 = k at g1 g2 g3 g4 g5 ⊢;unfold qg.f;rw [hbig, Option.bind_some, if_neg (by simp), en2, Option.bind_some, g1.2, Option.bind_some, g1.1, Option.bind_some, g2.2, Option.bind_some, g2.1, Option.bind_some, g3.2, Option.bind_some, g3.1, Option.bind_some];dsimp only;rw [bne_self_eq_false, if_neg (by simp), g4, Option.bind_some, if_pos rfl, if_neg (by simp), if_pos rfl, if_neg (by simp), if_pos rfl, if_neg (by simp)];exact g5

end Go.Proofs.YtgblginphicacaaGreat.PureFnClassesTold
