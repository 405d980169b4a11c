/- Plain texts of this law: what its functions compute. -/
import Derived.Test.YtgblginphicacaaGreatTFnClassesToldA
set_option linter.unusedSimpArgs false
set_option linter.unnecessarySimpa false
set_option linter.unusedVariables false
namespace Go.Proofs.YtgblginphicacaaGreat.PureFnClassesTold
open Go.RowKit Go.Proofs.YtgblginphicacaaGreat.PFnClassesTold Go.Proofs.YtgblginphicacaaGreatW.PrintWords Go.Proofs.YtgblginphicacaaGreatW.PrintLast

theorem rd_set (l : List Int) (a v i : Int) (ha : 0 ≤ a ∧ a < (l.length : Int)) (hi : 0 ≤ i) : rd (l.set a.toNat v) i = if i = a then v else rd l i := by
 unfold rd;rw [List.getD_eq_getElem?_getD, List.getD_eq_getElem?_getD, List.getElem?_set];by_cases h : i = a
 ·rw [if_pos (by omega), if_pos (by omega), if_pos h];rfl
 ·rw [if_neg (by omega), if_neg h]
theorem ext_rd (l m : List Int) (hl : l.length = m.length) (h : ∀ i : Int, 0 ≤ i → i < (l.length : Int) → rd l i = rd m i) : l = m := by
 apply List.ext_getElem hl;intro i h1 h2;have := h (i : Int) (by omega) (by omega);unfold rd at this;rw [Int.toNat_natCast, List.getD_eq_getElem?_getD, List.getD_eq_getElem?_getD, List.getElem?_eq_getElem h1, List.getElem?_eq_getElem h2] at this;exact this
/-- How many ends of diagonals lie at a corner. -/
def dg (l : List DG) (i : Int) : Int := ((l.countP fun d => d.f0 == i : Nat) : Int) + ((l.countP fun d => d.f1 == i : Nat) : Int)
theorem dg_perm {l m : List DG} (h : l.Perm m) (i : Int) : dg l i = dg m i := by
 unfold dg;rw [h.countP_eq, h.countP_eq]
theorem dg_cons (d : DG) (l : List DG) (i : Int) : dg (d :: l) i = dg l i + (if d.f0 = i then 1 else 0) + if d.f1 = i then 1 else 0 := by
 unfold dg;rw [List.countP_cons, List.countP_cons];by_cases h1 : d.f0 = i <;> by_cases h2 : d.f1 = i <;> simp [h1, h2] <;> omega
theorem QP (l : List DG) (i : Int) : 0 ≤ dg l i ∧ dg l i ≤ 2 * (l.length : Int) := by
 unfold dg;have h1 := List.countP_le_length (p := fun d : DG => d.f0 == i) (l := l);have h2 := List.countP_le_length (p := fun d : DG => d.f1 == i) (l := l);omega
theorem quid_l1 (l : List DG) (N : Nat) (hl : l.length ≤ 1000) (hd : ∀ d ∈ l, 0 ≤ d.f0 ∧ d.f0 < d.f1 ∧ d.f1 < (N : Int)) (e : Nat) : ∀ (j : Nat) (x5 : List Int) (D : List DG), j + e = l.length → D.length = j → x5.length = N → (∀ i : Int, 0 ≤ i → i < (N : Int) → rd x5 i = 1 + dg D i) →
  ∃ R, R.length = N ∧ (∀ i : Int, 0 ≤ i → i < (N : Int) → rd R i = 1 + dg (D ++ l.drop j) i) ∧ ∀ k, e < k → qV.l1 k x5 l (l.length : Int) (j : Int) = some R := by
 induction e with
 | zero =>
  intro j x5 D hj hD hx h;refine ⟨x5, hx, fun i h1 h2 => ?_, fun k hk => ?_⟩
  ·rw [List.drop_of_length_le (by omega), List.append_nil];exact h i h1 h2
  ·obtain ⟨k, rfl⟩ : ∃ q, k = q + 1 := ⟨k - 1, by omega⟩;simp only [qV.l1];rw [if_neg (by omega)]
 | succ e ih =>
  intro j x5 D hj hD hx h
  have hm : rD l j ∈ l := by
   have : rD l j ∈ l.drop j := by
    rw [uU l j (by omega)];exact List.mem_cons_self ..
   exact List.mem_of_mem_drop this
  have hok := hd _ hm;have hb := QP D;obtain ⟨y, hy⟩ : ∃ y, y = x5.set (rD l j).f0.toNat (rd x5 (rD l j).f0 + 1) := ⟨_, rfl⟩;have hyl : y.length = N := by rw [hy, List.length_set]; exact hx
  have hy1 : rd y (rD l j).f1 = rd x5 (rD l j).f1 := by
   rw [hy, rd_set _ _ _ _ (by omega) (by omega), if_neg (by omega)]
  have w1 : wrap64 (rd x5 (rD l j).f0 + 1) = rd x5 (rD l j).f0 + 1 := by
   have h1 := h (rD l j).f0 (by omega) (by omega);have h2 := hb (rD l j).f0;rw [h1];unfold wrap64;omega
  have w2 : wrap64 (rd y (rD l j).f1 + 1) = rd x5 (rD l j).f1 + 1 := by
   have h1 := h (rD l j).f1 (by omega) (by omega);have h2 := hb (rD l j).f1;rw [hy1, h1];unfold wrap64;omega
  obtain ⟨R, r1, r2, r3⟩ := ih (j + 1) (y.set (rD l j).f1.toNat (rd x5 (rD l j).f1 + 1)) (D ++ [rD l j]) (by omega) (by rw [List.length_append, List.length_singleton]; omega) (by rw [List.length_set]; exact hyl) (by
   intro i h1 h2;have h3 := h i h1 h2;have hp : dg (D ++ [rD l j]) i = dg (rD l j :: D) i := dg_perm (List.perm_append_singleton _ _) i;rw [rd_set _ _ _ _ (by omega) h1, hp, dg_cons, hy];by_cases e1 : i = (rD l j).f1
   ·rw [if_pos e1, if_neg (by omega), if_pos e1.symm, ← e1, h3];omega
   ·rw [if_neg e1, rd_set _ _ _ _ (by omega) h1, if_neg (show ¬ (rD l j).f1 = i by omega)];by_cases e0 : i = (rD l j).f0
    ·rw [if_pos e0, if_pos e0.symm, ← e0, h3];omega
    ·rw [if_neg e0, if_neg (by omega), h3];omega)
  refine ⟨R, r1, ?_, fun k hk => ?_⟩
  ·rw [uU l j (by omega)];simpa using r2
  ·obtain ⟨k, rfl⟩ : ∃ q, k = q + 1 := ⟨k - 1, by omega⟩;have h3 := r3 k (by omega);simp only [qV.l1];have g1 : (rD l j).f0 < (x5.length : Int) := (by omega);have g2 : 0 ≤ (rD l j).f1 := (by omega);have g3 : (rD l j).f1 < (x5.length : Int) := (by omega);rw [if_pos (by omega), if_pos (by omega), if_pos (by omega), if_pos hok.1, if_pos g1, w1];simp only [Option.bind_some];rw [if_pos g2, if_pos g3, ← hy, w2, zK j (by omega)];exact h3
theorem quid_l0 (l : List DG) (N : Nat) (hl : l.length ≤ 1000) (hN : N ≤ 1000) (hd : ∀ d ∈ l, 0 ≤ d.f0 ∧ d.f0 < d.f1 ∧ d.f1 < (N : Int)) (e : Nat) : ∀ (j : Nat) (x5 : List Int), j + e = N → x5.length = N → (∀ i : Int, 0 ≤ i → i < (j : Int) → rd x5 i = 1) →
  ∃ R, R.length = N ∧ (∀ i : Int, 0 ≤ i → i < (N : Int) → rd R i = 1 + dg l i) ∧ ∀ k, e + l.length + 1 < k → qV.l0 k l x5 (N : Int) (j : Int) = some R := by
 induction e with
 | zero =>
  intro j x5 hj hx h;obtain ⟨R, r1, r2, r3⟩ := quid_l1 l N hl hd l.length 0 x5 [] (by omega) rfl hx (fun i h1 h2 => by rw [h i h1 (by omega)]; rfl);refine ⟨R, r1, by simpa using r2, fun k hk => ?_⟩;obtain ⟨k, rfl⟩ : ∃ q, k = q + 1 := ⟨k - 1, by omega⟩;simp only [qV.l0];rw [if_neg (by omega)];exact r3 k (by omega)
 | succ e ih =>
  intro j x5 hj hx h
  obtain ⟨R, r1, r2, r3⟩ := ih (j + 1) (x5.set (j : Int).toNat 1) (by omega) (by rw [List.length_set]; exact hx) (by
   intro i h1 h2;rw [rd_set _ _ _ _ (by omega) h1];by_cases e0 : i = (j : Int)
   ·rw [if_pos e0]
   ·rw [if_neg e0];exact h i h1 (by omega))
  refine ⟨R, r1, r2, fun k hk => ?_⟩;obtain ⟨k, rfl⟩ : ∃ q, k = q + 1 := ⟨k - 1, by omega⟩;simp only [qV.l0];rw [if_pos (by omega), if_pos (by omega), if_pos (by omega), zK j (by omega)];exact r3 k (by omega)
theorem poQuiddity_tells (n : Int) (l : List DG) (hn : 3 ≤ n ∧ n ≤ 12) (hl : l.length ≤ 1000) (hd : ∀ d ∈ l, 0 ≤ d.f0 ∧ d.f0 < d.f1 ∧ d.f1 < n) :
  ∃ R, R.length = n.toNat ∧ (∀ i : Int, 0 ≤ i → i < n → rd R i = 1 + dg l i) ∧ ∀ k, l.length + 20 < k → qV.f k n l = some R := by
 obtain ⟨R, r1, r2, r3⟩ := quid_l0 l n.toNat hl (by omega) (fun d h => by have := hd d h; omega) n.toNat 0 (List.replicate n.toNat 0) (by omega) (by simp) (by omega);refine ⟨R, r1, fun i h1 h2 => r2 i h1 (by omega), fun k hk => ?_⟩;unfold qV.f;rw [if_pos (by omega), if_pos (by omega), Option.bind_some, List.length_replicate];exact r3 k (by omega)

theorem quid_same (x11 : List DG) (x12 : Int) : ∀ (k : Nat) (x5 : List Int) (x13 : Int), zY.l0 k x5 x11 x12 x13 = qV.l1 k x5 x11 x12 x13
 | 0, _, _ => rfl
 | k + 1, x5, x13 => by
  simp only [zY.l0, qV.l1, quid_same x11 x12 k]
theorem mul_one_n (n : Int) (h : 3 ≤ n ∧ n ≤ 12) : bits_Mul.f 1 n = some (0, n) := by
 have : n = 3 ∨ n = 4 ∨ n = 5 ∨ n = 6 ∨ n = 7 ∨ n = 8 ∨ n = 9 ∨ n = 10 ∨ n = 11 ∨ n = 12 := (by omega);rcases this with rfl | rfl | rfl | rfl | rfl | rfl | rfl | rfl | rfl | rfl <;> rfl
theorem ZB (n : Int) (l : List DG) (hn : 3 ≤ n ∧ n ≤ 12) (hl : l.length ≤ 1000) (hd : ∀ d ∈ l, 0 ≤ d.f0 ∧ d.f0 < d.f1 ∧ d.f1 < n) :
  ∃ R, R.length = n.toNat ∧ (∀ i : Int, 0 ≤ i → i < n → rd R i = 1 + dg l i) ∧ ∀ k, l.length + 20 < k → qV.f k n l = some R ∧ zY.f k n l = some R := by
 obtain ⟨R, r1, r2, r3⟩ := poQuiddity_tells n l hn hl hd
 obtain ⟨R2, q1, q2, q3⟩ := quid_l1 l n.toNat hl (fun d h => by have := hd d h; omega) l.length 0 (List.replicate n.toNat 1) [] (by omega) rfl (by simp) (fun i h1 h2 => by
  unfold rd;rw [List.getD_eq_getElem?_getD, List.getElem?_replicate, if_pos (by omega)];rfl)
 have e : R2 = R := by
  refine ext_rd _ _ (by omega) (fun i h1 h2 => ?_);rw [q2 i h1 (by omega), r2 i h1 (by omega)];rfl
 refine ⟨R, r1, r2, fun k hk => ⟨r3 k hk, ?_⟩⟩
 have hrep : yY.f [1] n = some (List.replicate n.toNat 1) := by
  unfold yY.f;rw [if_pos ⟨rfl, by omega, by omega, mul_one_n n hn⟩];rfl
 have h3 := q3 k (by omega);rw [show ((0 : Nat) : Int) = 0 from rfl, e] at h3;unfold zY.f;rw [hrep, Option.bind_some, quid_same];exact h3

/-- A triangulation's quiddity. -/
def qd (n : Nat) (l : List DG) : List Int := (List.range n).map fun (i : Nat) => 1 + dg l (i : Int)
theorem ZA (n : Nat) (l : List DG) : (qd n l).length = n := by simp [qd]
theorem qd_tells (n : Int) (hn : 3 ≤ n ∧ n ≤ 8) (x : List DG) (hx : x ∈ jZ n) (k : Nat) (hk : 200 < k) : qV.f k n x = some (qd n.toNat x) ∧ zY.f k n x = some (qd n.toNat x) := by
 have T := tris_only n hn x hx;have hl := QD n x hx;obtain ⟨R, r1, r2, r3⟩ := ZB n x (by omega) (by omega) (fun d hd => by have := T.ok d hd; omega)
 have e : R = qd n.toNat x := ext_rd _ _ (by rw [ZA, r1]) (fun i h0 h1 => by
  rw [r2 i h0 (by omega)];unfold rd qd;rw [List.getD_eq_getElem?_getD, List.getElem?_map, List.getElem?_range (by omega)];simp [Int.toNat_of_nonneg h0])
 rw [← e];exact r3 k (by omega)
/-- Put in its place. -/
def insQ (q : List Int) : List (List Int) → Nat → List (List Int)
 | out, 0 => q :: out
 | out, m + 1 => if q < out.getD m [] then insQ q out m else out.take (m + 1) ++ q :: out.drop (m + 1)
theorem insQ_len (q : List Int) (out : List (List Int)) : ∀ m, (insQ q out m).length = out.length + 1
 | 0 => rfl
 | m + 1 => by
  unfold insQ;by_cases h : q < out.getD m []
  ·rw [if_pos h]; exact insQ_len q out m
  ·rw [if_neg h, List.length_append, List.length_cons, List.length_take, List.length_drop]; omega
theorem insQ_mem (q : List Int) (out : List (List Int)) : ∀ m, ∀ x ∈ insQ q out m, x = q ∨ x ∈ out
 | 0, x, hx => by
  rcases List.mem_cons.1 hx with h | h
  ·exact Or.inl h
  ·exact Or.inr h
 | m + 1, x, hx => by
  unfold insQ at hx;by_cases h : q < out.getD m []
  ·rw [if_pos h] at hx; exact insQ_mem q out m x hx
  ·rw [if_neg h] at hx;rcases List.mem_append.1 hx with h1 | h1
   ·exact Or.inr (List.mem_of_mem_take h1)
   ·rcases List.mem_cons.1 h1 with h1 | h1
    ·exact Or.inl h1
    ·exact Or.inr (List.mem_of_mem_drop h1)
def sortQ : List (List Int) → List (List Int) → List (List Int)
 | out, [] => out
 | out, q :: r => sortQ (insQ q out out.length) r
theorem ZZ (x y : List Int) (hl : x.length = y.length) (hx : x.length ≤ 1000) : ∀ (d i k : Nat), i + d = x.length → d < k → zC.l0 k x y (x.length : Int) (i : Int) = some (decide (x.drop i < y.drop i))
 | 0, i, k, hi, hk => by
  obtain ⟨k, rfl⟩ : ∃ q, k = q + 1 := ⟨k - 1, by omega⟩;rw [zC.l0, if_neg (by omega), List.drop_of_length_le (show x.length ≤ i by omega), List.drop_of_length_le (show y.length ≤ i by omega)];simp
 | d + 1, i, k, hi, hk => by
  obtain ⟨k, rfl⟩ : ∃ q, k = q + 1 := ⟨k - 1, by omega⟩;have h1 : i < x.length := (by omega);have h2 : i < y.length := (by omega);rw [zC.l0, if_pos (by omega), if_pos (by omega), if_pos (by omega), if_pos (by omega), rdI_at x i h1, rdI_at y i h2, List.drop_eq_getElem_cons h1, List.drop_eq_getElem_cons h2];by_cases he : x[i] = y[i]
  ·rw [if_pos he, show wrap64 ((i : Int) + 1) = ((i + 1 : Nat) : Int) by unfold wrap64; omega, ZZ x y hl hx d (i + 1) k (by omega) (by omega)];congr 1;rw [decide_eq_decide, List.cons_lt_cons_iff];constructor
   ·intro h; exact Or.inr ⟨he, h⟩
   ·rintro (h | h)
    ·omega
    ·exact h.2
  ·rw [if_neg he];congr 1;rw [decide_eq_decide, List.cons_lt_cons_iff];constructor
   ·intro h; exact Or.inl h
   ·rintro (h | h)
    ·exact h
    ·exact absurd h.1 he
theorem JC (x y : List Int) (hl : x.length = y.length) (hx : x.length ≤ 1000) (k : Nat) (hk : x.length < k) : zC.f k x y = some (decide (x < y)) := by
 have h := ZZ x y hl hx x.length 0 k (by omega) hk;rw [List.drop_zero, List.drop_zero] at h;exact h
theorem J4 (l : List (List Int)) (i : Nat) (h : i < l.length) : vQ l (i : Int) = l.getD i [] := by
 unfold vQ;rw [Int.toNat_natCast]
theorem place_rounds (n : Int) (out : List (List Int)) (q : List Int) (N : Nat) (hq : q.length = N) (hN : N ≤ 100) (ho : ∀ x ∈ out, x.length = N) (hlo : out.length ≤ 100000) (ts : List (List DG)) (L i : Int) (m : Nat) : ∀ k : Nat, m ≤ out.length → m + 200 < k → ∃ k' : Nat, k ≤ k' + m + 1 ∧ k' < k ∧ qK.l1 k n out q (m : Int) ts L i = qK.l0 k' n (insQ q out m) ts L (wrap64 (i + 1)) := by
 induction m with
 | zero =>
  intro k hm hk;obtain ⟨k, rfl⟩ : ∃ z, k = z + 1 := ⟨k - 1, by omega⟩;refine ⟨k, by omega, by omega, ?_⟩;simp only [qK.l1];rw [if_neg (by omega)];simp only [Option.bind_some, List.nil_append];rw [if_pos (by omega), if_pos (by omega)];have e0 : ((0 : Nat) : Int).toNat = 0 := rfl;simp only [e0, List.take_zero, List.drop_zero, List.length_nil, List.nil_append, List.append_nil, List.length_cons, List.singleton_append];rw [if_pos (by omega), if_pos (by omega), if_pos (by omega)];rfl
 | succ m ih =>
  intro k hm hk;obtain ⟨k, rfl⟩ : ∃ z, k = z + 1 := ⟨k - 1, by omega⟩;have w1 : wrap64 (((m + 1 : Nat) : Int) - 1) = (m : Int) := by unfold wrap64; omega
  have hx : out.getD m [] ∈ out := by
   rw [List.getD_eq_getElem?_getD, List.getElem?_eq_getElem (show m < out.length by omega)];exact List.getElem_mem _
  have hb := JC q (out.getD m []) (by rw [hq, ho _ hx]) (by omega) k (by omega);simp only [qK.l1, w1, J4 out m (by omega), hb, Option.bind_some];rw [if_pos (by omega), if_pos (by omega), if_pos (by omega)];unfold insQ;by_cases h : q < out.getD m []
  ·obtain ⟨k', h1, h2, h3⟩ := ih k (by omega) (by omega);refine ⟨k', by omega, by omega, ?_⟩;rw [if_pos h, if_pos (decide_eq_true h)];exact h3
  ·refine ⟨k, by omega, by omega, ?_⟩;rw [if_neg h, if_neg (by simpa using h), if_pos (by omega), if_pos (by omega), Int.toNat_natCast];simp only [List.nil_append, List.length_append, List.length_take, List.length_drop, List.length_cons, List.length_nil];rw [if_pos (by omega), if_pos (by omega), if_pos (by omega), List.append_assoc];rfl
theorem sort_rounds (n : Int) (N : Nat) (hN : N ≤ 100) (ts : List (List DG)) (hts : ts.length ≤ 1000) (qf : List DG → List Int) (hqf : ∀ x ∈ ts, (qf x).length = N ∧ ∀ k, 200 < k → qV.f k n x = some (qf x)) (C : Nat) (hC : C = 1010) (d : Nat) : ∀ (i k : Nat) (out : List (List Int)), i + d = ts.length → out.length = i → (∀ x ∈ out, x.length = N) → d * C + 400 < k → qK.l0 k n out ts (ts.length : Int) (i : Int) = some (sortQ out ((ts.drop i).map qf)) := by
 induction d with
 | zero =>
  intro i k out hi ho hx hk;obtain ⟨k, rfl⟩ : ∃ z, k = z + 1 := ⟨k - 1, by omega⟩;rw [qK.l0, if_neg (by omega), List.drop_of_length_le (by omega)];rfl
 | succ d ih =>
  intro i k out hi ho hx hk;obtain ⟨k, rfl⟩ : ∃ z, k = z + 1 := ⟨k - 1, by rw [Nat.succ_mul] at hk; generalize d * C = D at hk; omega⟩;have hlt : i < ts.length := (by omega);have hm := hqf ts[i] (List.getElem_mem _);have hkk : 1400 ≤ k := (by rw [Nat.succ_mul] at hk; generalize d * C = D at hk; omega);obtain ⟨k', h1, h2, h3⟩ := place_rounds n out (qf ts[i]) N hm.1 hN hx (by omega) ts (ts.length : Int) (i : Int) out.length k (Nat.le_refl _) (by omega)
  have h4 := ih (i + 1) k' (insQ (qf ts[i]) out out.length) (by omega) (by rw [insQ_len]; omega) (fun x hx' => by
   rcases insQ_mem _ _ _ x hx' with rfl | h
   ·exact hm.1
   ·exact hx x h) (by rw [Nat.succ_mul] at hk; generalize d * C = D at hk ⊢; omega)
  rw [qK.l0, if_pos (by omega), if_pos (by omega), if_pos (by omega), Zl ts i hlt, hm.2 k (by omega), Option.bind_some, h3, show wrap64 ((i : Int) + 1) = ((i + 1 : Nat) : Int) by unfold wrap64; omega, h4, List.drop_eq_getElem_cons hlt, List.map_cons];rfl
theorem list_rounds (n : Int) (ts : List (List DG)) (hts : ts.length ≤ 1000) (qf : List DG → List Int) (hqf : ∀ x ∈ ts, ∀ k, 200 < k → zY.f k n x = some (qf x)) : ∀ (d i k : Nat) (out : List (List Int)), i + d = ts.length → out.length = i → d + 400 < k → zg.l0 k n out ts (ts.length : Int) (i : Int) = (yI.f (out ++ (ts.drop i).map qf)).bind fun t => some t
 | 0, i, k, out, hi, ho, hk => by
  obtain ⟨k, rfl⟩ : ∃ z, k = z + 1 := ⟨k - 1, by omega⟩;rw [zg.l0, if_neg (by omega), List.drop_of_length_le (by omega)];simp
 | d + 1, i, k, out, hi, ho, hk => by
  obtain ⟨k, rfl⟩ : ∃ z, k = z + 1 := ⟨k - 1, by omega⟩;have hlt : i < ts.length := (by omega);have hm := hqf ts[i] (List.getElem_mem _) k (by omega);rw [zg.l0, if_pos (by omega), if_pos (by omega), if_pos (by omega), Zl ts i hlt, hm, Option.bind_some, if_pos (by omega), show wrap64 ((i : Int) + 1) = ((i + 1 : Nat) : Int) by unfold wrap64; omega, list_rounds n ts hts qf hqf d (i + 1) k _ (by omega) (by simp; omega) (by omega), List.drop_eq_getElem_cons hlt, List.map_cons];simp
/-! ### One list -/
def adjQ : List (List Int) → Bool
 | a :: b :: l => decide (a < b) && adjQ (b :: l)
 | _ => true
theorem adjQ_lt : ∀ (l : List (List Int)) (a : List Int), adjQ (a :: l) = true → (a :: l).Pairwise fun x y => x < y
 | [], a, _ => by simp
 | b :: l, a, h => by
  simp only [adjQ, Bool.and_eq_true, decide_eq_true_eq] at h;have ih := adjQ_lt l b h.2;refine List.Pairwise.cons (fun y hy => ?_) ih;rcases List.mem_cons.1 hy with rfl | hy
  ·exact h.1
  ·exact List.lt_trans h.1 ((List.pairwise_cons.1 ih).1 y hy)
def quidsGood (n : Nat) : Bool :=
 let ts := (jZ (n : Int)).map (qd n)
 let r := sortQ [] ts
 adjQ r && (r.isPerm ts && (decide (r.length ≤ 1000) && !r.isEmpty))
set_option maxRecDepth 1000000 in
theorem quids_good_all : ((List.range 6).all fun i => quidsGood (i + 3)) = true := by kernel_rfl
theorem quids_good (n : Nat) (hn : 3 ≤ n ∧ n ≤ 8) : quidsGood n = true := by
 have h := List.all_eq_true.1 quids_good_all (n - 3) (by rw [List.mem_range]; omega);rwa [show n - 3 + 3 = n by omega] at h
theorem quids_all (n : Int) (hn : 3 ≤ n ∧ n ≤ 8) : ∃ r : List (List Int), (r.length ≤ 1000 ∧ (∀ x ∈ r, x.length = n.toNat) ∧ r.Pairwise (fun x y => x < y) ∧ (∀ t ∈ jZ n, qd n.toNat t ∈ r) ∧ ∀ x ∈ r, ∃ t ∈ jZ n, qd n.toNat t = x) ∧ ∀ k, 1100000 ≤ k → qK.f k n = some r ∧ zg.f k n = some r := by
 obtain ⟨N, rfl⟩ : ∃ N : Nat, n = N := ⟨n.toNat, by omega⟩;have hg := quids_good N (by omega);unfold quidsGood at hg;obtain ⟨ts, hts⟩ : ∃ ts, ts = jZ (N : Int) := ⟨_, rfl⟩;rw [← hts] at hg;obtain ⟨r, hr⟩ : ∃ r, r = sortQ [] (ts.map (qd N)) := ⟨_, rfl⟩;simp only [← hr, Bool.and_eq_true, decide_eq_true_eq, Bool.not_eq_true'] at hg;obtain ⟨g1, g2, g3, g4⟩ := hg;have gp := List.isPerm_iff.1 g2;have gl := gp.length_eq;rw [List.length_map] at gl
 have hq : ∀ x ∈ ts, ∀ k, 200 < k → qV.f k N x = some (qd N x) ∧ zY.f k N x = some (qd N x) := fun x hx k hk => by
  have h := qd_tells (N : Int) hn x (hts ▸ hx) k hk;rwa [Int.toNat_natCast] at h
 have hs : r.Pairwise fun x y => x < y := by
  cases hc : r with
  | nil => simp
  | cons a l => rw [hc] at g1; exact adjQ_lt l a g1
 have hnd : (ts.map (qd N)).Nodup := gp.nodup_iff.1 (hs.imp (fun {x y} h e => by subst e; exact List.lt_irrefl _ h))
 have hsort : (ts.map (qd N)).mergeSort qLe = r := by
  refine List.Perm.eq_of_pairwise (le := fun x y => qLe x y = true) (fun a b _ _ h1 h2 => ?_) (List.pairwise_mergeSort (fun a b c h1 h2 => ?_) (fun a b => ?_) _) (hs.imp (fun {x y} h => ?_)) ((List.mergeSort_perm _ _).trans gp.symm)
  ·unfold qLe at h1 h2;simp only [Bool.not_eq_true', decide_eq_false_iff_not, List.not_lt] at h1 h2;exact List.le_antisymm h1 h2
  ·unfold qLe at h1 h2 ⊢;simp only [Bool.not_eq_true', decide_eq_false_iff_not, List.not_lt] at h1 h2 ⊢;exact List.le_trans h1 h2
  ·unfold qLe;simp only [Bool.or_eq_true, Bool.not_eq_true', decide_eq_false_iff_not, List.not_lt];exact List.le_total a b
  ·unfold qLe;simp only [Bool.not_eq_true', decide_eq_false_iff_not, List.not_lt];exact List.le_of_lt h
 refine ⟨r, ⟨by omega, fun x hx => ?_, hs, fun t ht => ?_, fun x hx => ?_⟩, fun k hk => ⟨?_, ?_⟩⟩
 ·obtain ⟨t, _, rfl⟩ := List.mem_map.1 (gp.mem_iff.1 hx);rw [ZA];omega
 ·rw [Int.toNat_natCast];exact gp.mem_iff.2 (List.mem_map.2 ⟨t, hts ▸ ht, rfl⟩)
 ·obtain ⟨t, ht, rfl⟩ := List.mem_map.1 (gp.mem_iff.1 hx);exact ⟨t, hts ▸ ht, by rw [Int.toNat_natCast]⟩
 ·unfold qK.f;have h := sort_rounds (N : Int) N (by omega) ts (by omega) (qd N) (fun x hx => ⟨ZA N x, fun k hk => (hq x hx k hk).1⟩) 1010 rfl ts.length 0 k [] (by omega) rfl (fun x hx => by cases hx) (by omega);rw [List.drop_zero, ← hr] at h;rw [Qx _ hn, Option.bind_some, ← hts];exact h
 ·unfold zg.f;have h := list_rounds (N : Int) ts (by omega) (qd N) (fun x hx k hk => (hq x hx k hk).2) ts.length 0 k [] (by omega) rfl (by omega);rw [List.drop_zero, List.nil_append] at h;rw [kv _ hn k (by omega), Option.bind_some, ← hts];refine h.trans ?_;unfold yI.f
  have hne : (ts.map (qd N)).isEmpty = false := by
   rw [List.isEmpty_eq_false_iff];intro e;rw [e] at gp;have := gp.length_eq;rw [List.isEmpty_eq_false_iff] at g4;exact g4 (List.eq_nil_of_length_eq_zero (by simpa using this))
  rw [if_pos ⟨hne, by rw [List.length_map]; omega, hnd⟩, hsort];rfl
theorem quids_both (n : Int) (hn : 3 ≤ n ∧ n ≤ 8) : ∃ r : List (List Int), (r.length ≤ 300000 ∧ ∀ x ∈ r, x.length ≤ 100) ∧ ∀ k, 1100000 ≤ k → qK.f k n = some r ∧ zg.f k n = some r := by
 obtain ⟨r, ⟨h1, h2, _, _⟩, h⟩ := quids_all n hn;exact ⟨r, ⟨by omega, fun x hx => by rw [h2 x hx]; omega⟩, h⟩

def idxOf {α : Type} (p : α → Bool) : List α → Nat → Int
 | [], _ => -1
 | x :: l, i => if p x = true then (i : Int) else idxOf p l (i + 1)
theorem Zn {α : Type} (p : α → Bool) (l : List α) : ∀ i : Nat, 0 ≤ idxOf p l i ↔ l.any p = true := by
 induction l with
 | nil => intro i; simp [idxOf]
 | cons x l ih =>
  intro i;rw [List.any_cons];unfold idxOf;by_cases h : p x = true
  ·rw [if_pos h, h];simp
  ·rw [if_neg h, Bool.eq_false_iff.mpr h, Bool.false_or];exact ih _
theorem idxOf_any {α : Type} (p : α → Bool) (l : List α) (i : Nat) : decide (idxOf p l i ≥ 0) = l.any p := by
 rw [Bool.eq_iff_iff, decide_eq_true_iff];exact Zn p l i
theorem kG {α : Type} (p : α → Bool) (d : α) (l : List α) (i : Nat) (h : i < l.length) : idxOf p (l.drop i) i = if p (l.getD i d) = true then (i : Int) else idxOf p (l.drop (i + 1)) (i + 1) := by
 rw [List.drop_eq_getElem_cons h, List.getD_eq_getElem?_getD, List.getElem?_eq_getElem h];rfl

theorem less_none (x : List Int) (l : List (List Int)) (h : ∀ y ∈ l, x < y) : l.countP (fun y => decide (y < x)) = 0 := by
 rw [List.countP_eq_zero];intro y hy;rw [decide_eq_true_eq];exact fun h2 => List.lt_irrefl _ (List.lt_trans (h y hy) h2)
theorem rank_at (x : List Int) (l : List (List Int)) : ∀ i : Nat, l.Pairwise (fun a b => a < b) → x ∈ l → idxOf (fun y => decide (y = x)) l i = (i : Int) + ((l.countP fun y => decide (y < x) : Nat) : Int) := by
 induction l with
 | nil => intro i _ h; exact absurd h (by simp)
 | cons a l ih =>
  intro i hp hx;obtain ⟨h1, h2⟩ := List.pairwise_cons.1 hp;unfold idxOf;rw [List.countP_cons];by_cases e : a = x
  ·subst e;rw [if_pos (by simp), less_none a l h1, if_neg (by rw [decide_eq_true_eq]; exact List.lt_irrefl _)];simp
  ·have hm : x ∈ l := by
    rcases List.mem_cons.1 hx with h | h
    ·exact absurd h.symm e
    ·exact h
   rw [if_neg (by simpa using e), ih (i + 1) h2 hm, if_pos (by rw [decide_eq_true_eq]; exact h1 x hm)];omega

theorem dg_snoc (l : List DG) (d : DG) (c : Int) : dg (l ++ [d]) c = dg l c + (if d.f0 = c then 1 else 0) + if d.f1 = c then 1 else 0 := by
 rw [dg_perm (List.perm_append_comm (l₁ := l) (l₂ := [d])), List.singleton_append, dg_cons]
/-- What is left, and what has been cut. -/
structure Cut (n : Int) (q : Int → Int) (ns : List Int) (out : List DG) : Prop where
 rise : ns.Pairwise (· < ·)
 rng : ∀ c ∈ ns, 0 ≤ c ∧ c < n
 gone : ∀ c, 0 ≤ c → c < n → c ∉ ns → q c = 1 + dg out c
 ok : ∀ d ∈ out, 0 ≤ d.f0 ∧ d.f1 ≤ n - 1 ∧ 2 ≤ d.f1 - d.f0 ∧ d.f1 - d.f0 ≤ n - 2
 side : ∀ d ∈ out, (∀ c ∈ ns, d.f0 ≤ c ∧ c ≤ d.f1) ∨ (∀ c ∈ ns, c ≤ d.f0 ∨ d.f1 ≤ c)
 nc : ∀ d ∈ out, ∀ e ∈ out, ¬ (d.f0 < e.f0 ∧ e.f0 < d.f1 ∧ d.f1 < e.f1)
 new : out.Pairwise fun d e => ¬ (d.f0 = e.f0 ∧ d.f1 = e.f1)
 cnt : (out.length : Int) + ns.length = n
/-- The corner ahead, the corner behind. -/
def ahd (m i : Nat) : Nat := if i = 0 then m - 1 else i - 1
def bhd (m i : Nat) : Nat := if i = m - 1 then 0 else i + 1
def dOf (ns : List Int) (i : Nat) : DG := ⟨min (ns.getD (ahd ns.length i) 0) (ns.getD (bhd ns.length i) 0), max (ns.getD (ahd ns.length i) 0) (ns.getD (bhd ns.length i) 0)⟩
theorem getD_at (ns : List Int) (j : Nat) (h : j < ns.length) : ns.getD j 0 = ns[j] := by rw [List.getD_eq_getElem?_getD, List.getElem?_eq_getElem h]; rfl
/-- What the new diagonal is among the corners left. -/
theorem dOf_facts {n : Int} {ns : List Int} (hr : ns.Pairwise (· < ·)) (hg : ∀ c ∈ ns, 0 ≤ c ∧ c < n) (h4 : 4 ≤ ns.length) (i : Nat) (hi : i < ns.length) :
  (0 ≤ (dOf ns i).f0 ∧ (dOf ns i).f1 ≤ n - 1 ∧ 2 ≤ (dOf ns i).f1 - (dOf ns i).f0 ∧ (dOf ns i).f1 - (dOf ns i).f0 ≤ n - 2) ∧
  ((∀ c ∈ ns.eraseIdx i, (dOf ns i).f0 ≤ c ∧ c ≤ (dOf ns i).f1) ∨ (∀ c ∈ ns.eraseIdx i, c ≤ (dOf ns i).f0 ∨ (dOf ns i).f1 ≤ c)) ∧
  (∃ c ∈ ns, (dOf ns i).f0 < c ∧ c < (dOf ns i).f1) ∧ (∃ c ∈ ns, c < (dOf ns i).f0 ∨ (dOf ns i).f1 < c) ∧
  ((dOf ns i).f0 ∈ ns ∧ (dOf ns i).f1 ∈ ns) ∧ (ns[i] ≠ (dOf ns i).f0 ∧ ns[i] ≠ (dOf ns i).f1) := by
 have P : ∀ j k (hj : j < ns.length) (hk : k < ns.length), j < k → ns[j] < ns[k] := fun j k hj hk h => List.pairwise_iff_getElem.1 hr j k hj hk h
 have Q : ∀ j k (hj : j < ns.length) (hk : k < ns.length), j ≤ k → ns[j] ≤ ns[k] := fun j k hj hk h => by
  rcases Nat.lt_or_ge j k with c | c
  ·exact Int.le_of_lt (P j k hj hk c)
  ·have : j = k := (by omega);subst this;exact Int.le_refl _
 have G : ∀ j (hj : j < ns.length), 0 ≤ ns[j] ∧ ns[j] < n := fun j hj => hg _ (List.getElem_mem _)
 have E : ∀ c ∈ ns.eraseIdx i, ∃ j, ∃ hj : j < ns.length, j ≠ i ∧ ns[j] = c := fun c hc => by
  obtain ⟨j, hj, hne, he⟩ := List.mem_eraseIdx_iff_getElem.1 hc;exact ⟨j, hj, hne, he⟩
 by_cases c0 : i = 0
 ·subst c0;have e0 : ahd ns.length 0 = ns.length - 1 := rfl;have e1 : bhd ns.length 0 = 1 := by unfold bhd; rw [if_neg (by omega)]
  have hd : dOf ns 0 = ⟨ns[1], ns[ns.length - 1]⟩ := by
   have h := P 1 (ns.length - 1) (by omega) (by omega) (by omega);unfold dOf;rw [e0, e1, getD_at ns _ (by omega), getD_at ns _ (by omega), Int.min_eq_right (by omega), Int.max_eq_left (by omega)]
  rw [hd];have h01 := P 0 1 (by omega) (by omega) (by omega);have h12 := P 1 2 (by omega) (by omega) (by omega);have h2m := P 2 (ns.length - 1) (by omega) (by omega) (by omega);have g0 := G 0 (by omega);have gm := G (ns.length - 1) (by omega);refine ⟨⟨by show 0 ≤ ns[1]; omega, by show ns[ns.length - 1] ≤ n - 1; omega, by show 2 ≤ ns[ns.length - 1] - ns[1]; omega, by show ns[ns.length - 1] - ns[1] ≤ n - 2; omega⟩, Or.inl (fun c hc => ?_), ⟨ns[2], List.getElem_mem _, h12, h2m⟩, ⟨ns[0], List.getElem_mem _, Or.inl h01⟩, ⟨List.getElem_mem _, List.getElem_mem _⟩, by show ns[0] ≠ ns[1]; omega, by show ns[0] ≠ ns[ns.length - 1]; omega⟩;obtain ⟨j, hj, hne, rfl⟩ := E c hc;exact ⟨Q 1 j (by omega) hj (by omega), Q j (ns.length - 1) hj (by omega) (by omega)⟩
 ·by_cases c1 : i = ns.length - 1
  ·have e0 : ahd ns.length i = i - 1 := (by unfold ahd; rw [if_neg c0]);have e1 : bhd ns.length i = 0 := by unfold bhd; rw [if_pos c1]
   have hd : dOf ns i = ⟨ns[0], ns[i - 1]⟩ := by
    have h := P 0 (i - 1) (by omega) (by omega) (by omega);unfold dOf;rw [e0, e1, getD_at ns _ (by omega), getD_at ns _ (by omega), Int.min_eq_right (by omega), Int.max_eq_left (by omega)]
   rw [hd];have h01 := P 0 1 (by omega) (by omega) (by omega);have h12 := P 1 (i - 1) (by omega) (by omega) (by omega);have h2m := P (i - 1) i (by omega) (by omega) (by omega);have g0 := G 0 (by omega);have gm := G i (by omega);refine ⟨⟨by show 0 ≤ ns[0]; omega, by show ns[i - 1] ≤ n - 1; omega, by show 2 ≤ ns[i - 1] - ns[0]; omega, by show ns[i - 1] - ns[0] ≤ n - 2; omega⟩, Or.inl (fun c hc => ?_), ⟨ns[1], List.getElem_mem _, h01, h12⟩, ⟨ns[i], List.getElem_mem _, Or.inr h2m⟩, ⟨List.getElem_mem _, List.getElem_mem _⟩, by show ns[i] ≠ ns[0]; omega, by show ns[i] ≠ ns[i - 1]; omega⟩;obtain ⟨j, hj, hne, rfl⟩ := E c hc;exact ⟨Q 0 j (by omega) hj (by omega), Q j (i - 1) hj (by omega) (by omega)⟩
  ·have e0 : ahd ns.length i = i - 1 := (by unfold ahd; rw [if_neg c0]);have e1 : bhd ns.length i = i + 1 := by unfold bhd; rw [if_neg c1]
   have hd : dOf ns i = ⟨ns[i - 1], ns[i + 1]⟩ := by
    have h := P (i - 1) (i + 1) (by omega) (by omega) (by omega);unfold dOf;rw [e0, e1, getD_at ns _ (by omega), getD_at ns _ (by omega), Int.min_eq_left (by omega), Int.max_eq_right (by omega)]
   rw [hd];have h01 := P (i - 1) i (by omega) (by omega) (by omega);have h12 := P i (i + 1) (by omega) (by omega) (by omega);have g0 := G (i - 1) (by omega);have gm := G (i + 1) (by omega)
   have hout : ∃ c ∈ ns, c < ns[i - 1] ∨ ns[i + 1] < c := by
    by_cases c2 : i = 1
    ·exact ⟨ns[3], List.getElem_mem _, Or.inr (by subst c2; exact P 2 3 (by omega) (by omega) (by omega))⟩
    ·exact ⟨ns[0], List.getElem_mem _, Or.inl (P 0 (i - 1) (by omega) (by omega) (by omega))⟩
   have hgap : ns[i + 1] - ns[i - 1] ≤ n - 2 := by
    obtain ⟨c, hc, h⟩ := hout;have := hg c hc;omega
   refine ⟨⟨by show 0 ≤ ns[i - 1]; omega, by show ns[i + 1] ≤ n - 1; omega, by show 2 ≤ ns[i + 1] - ns[i - 1]; omega, hgap⟩, Or.inr (fun c hc => ?_), ⟨ns[i], List.getElem_mem _, h01, h12⟩, hout, ⟨List.getElem_mem _, List.getElem_mem _⟩, by show ns[i] ≠ ns[i - 1]; omega, by show ns[i] ≠ ns[i + 1]; omega⟩;obtain ⟨j, hj, hne, rfl⟩ := E c hc;rcases Nat.lt_or_ge j i with h | h
   ·exact Or.inl (Q j (i - 1) hj (by omega) (by omega))
   ·exact Or.inr (Q (i + 1) j (by omega) hj (by omega))
theorem Cut.step {n : Int} {q : Int → Int} {ns : List Int} {out : List DG} (C : Cut n q ns out) (h4 : 4 ≤ ns.length) (i : Nat) (hi : i < ns.length) (h1 : q ns[i] - dg out ns[i] = 1) : Cut n q (ns.eraseIdx i) (out ++ [dOf ns i]) := by
 obtain ⟨F1, F2, ⟨u, hu, hu1, hu2⟩, ⟨v, hv, hv1⟩, ⟨m0, m1⟩, e0, e1⟩ := dOf_facts C.rise C.rng h4 i hi;obtain ⟨d, hd⟩ : ∃ d, d = dOf ns i := ⟨_, rfl⟩;rw [← hd] at F1 F2 hu1 hu2 hv1 m0 m1 e0 e1 ⊢;have hsub : ∀ c ∈ ns.eraseIdx i, c ∈ ns := fun c hc => List.mem_of_mem_eraseIdx hc
 have hS : ∀ e ∈ out, ¬ (d.f0 < e.f0 ∧ e.f0 < d.f1 ∧ d.f1 < e.f1) ∧ ¬ (e.f0 < d.f0 ∧ d.f0 < e.f1 ∧ e.f1 < d.f1) ∧ ¬ (e.f0 = d.f0 ∧ e.f1 = d.f1) := fun e he => by
  have hk := C.ok e he;rcases C.side e he with h | h
  ·have a0 := h _ m0;have a1 := h _ m1;have au := h _ hu;have av := h _ hv;omega
  ·have a0 := h _ m0;have a1 := h _ m1;have au := h _ hu;have av := h _ hv;omega
 refine ⟨C.rise.sublist (List.eraseIdx_sublist _ _), fun c hc => C.rng c (hsub c hc), ?_, ?_, ?_, ?_, ?_, ?_⟩
 ·intro c hc0 hc1 hc;rw [dg_snoc];by_cases hm : c ∈ ns
  ·have hci : c = ns[i] := by
    obtain ⟨j, hj, rfl⟩ := List.getElem_of_mem hm;by_cases hji : j = i
    ·subst hji; rfl
    ·exact absurd (List.mem_eraseIdx_iff_getElem.2 ⟨j, hj, hji, rfl⟩) hc
   subst hci;rw [if_neg (show ¬ d.f0 = ns[i] from fun h => e0 h.symm), if_neg (show ¬ d.f1 = ns[i] from fun h => e1 h.symm)];omega
  ·have h2 := C.gone c hc0 hc1 hm;rw [if_neg (show ¬ d.f0 = c from fun h => hm (h ▸ m0)), if_neg (show ¬ d.f1 = c from fun h => hm (h ▸ m1))];omega
 ·intro e he;rcases List.mem_append.1 he with h | h
  ·exact C.ok e h
  ·rw [List.mem_singleton.1 h]; exact F1
 ·intro e he;rcases List.mem_append.1 he with h | h
  ·rcases C.side e h with h2 | h2
   ·exact Or.inl (fun c hc => h2 c (hsub c hc))
   ·exact Or.inr (fun c hc => h2 c (hsub c hc))
  ·rw [List.mem_singleton.1 h]; exact F2
 ·intro e he f hf;rcases List.mem_append.1 he with h | h <;> rcases List.mem_append.1 hf with h2 | h2
  ·exact C.nc e h f h2
  ·rw [List.mem_singleton.1 h2]; exact (hS e h).2.1
  ·rw [List.mem_singleton.1 h]; exact (hS f h2).1
  ·rw [List.mem_singleton.1 h, List.mem_singleton.1 h2]; omega
 ·rw [List.pairwise_append];refine ⟨C.new, by simp, fun e he f hf => ?_⟩;rw [List.mem_singleton.1 hf];exact (hS e he).2.2
 ·have := C.cnt;rw [List.length_append, List.length_singleton, List.length_eraseIdx, if_pos hi];omega

def p1 (x : Int) : Bool := decide (x = 1)
/-- What stands at the corners left. -/
def vl (q : Int → Int) (out : List DG) (ns : List Int) : List Int := ns.map fun c => wrap64 (q c - dg out c)
/-- The rounds: the first corner with a 1 is cut off, as often as told. -/
def ear (q : Int → Int) : Nat → List Int → List DG → Option (List Int × List DG)
 | 0, ns, out => some (ns, out)
 | e + 1, ns, out => if idxOf p1 (vl q out ns) 0 < 0 then none else ear q e (ns.eraseIdx (idxOf p1 (vl q out ns) 0).toNat) (out ++ [dOf ns (idxOf p1 (vl q out ns) 0).toNat])
theorem idxOf_at (l : List Int) : ∀ j : Nat, 0 ≤ idxOf p1 l j → ∃ i : Nat, ∃ hi : i < l.length, idxOf p1 l j = ((j + i : Nat) : Int) ∧ l[i] = 1 := by
 induction l with
 | nil => intro j h; simp [idxOf] at h
 | cons x l ih =>
  intro j h;unfold idxOf at h ⊢;by_cases hx : p1 x = true
  ·rw [if_pos hx];exact ⟨0, by simp, rfl, by simpa [p1] using hx⟩
  ·rw [if_neg hx] at h ⊢;obtain ⟨i, hi, h1, h2⟩ := ih (j + 1) h;exact ⟨i + 1, by simp; omega, by rw [h1]; congr 1; omega, by simpa using h2⟩
theorem wrap_id (x : Int) (h0 : -9223372036854775808 ≤ x) (h1 : x ≤ 9223372036854775807) : wrap64 x = x := by unfold wrap64; omega
theorem wrap_one (x d : Int) (h0 : -9223372036854775808 ≤ x) (h1 : x ≤ 9223372036854775807) (hd : 0 ≤ d ∧ d ≤ 1000) : wrap64 (x - d) = 1 ↔ x - d = 1 := by unfold wrap64; omega
theorem wrap_wrap (x : Int) : wrap64 (wrap64 x - 1) = wrap64 (x - 1) := by unfold wrap64; omega
theorem ear_snd {n : Int} {q : Int → Int} {out : List DG} {ns : List Int} (C : Cut n q ns out) (hn : n ≤ 12) (hq : ∀ c, 0 ≤ c → c < n → -9223372036854775808 ≤ q c ∧ q c ≤ 9223372036854775807) (h : ¬ idxOf p1 (vl q out ns) 0 < 0) :
  ∃ i : Nat, ∃ hi : i < ns.length, idxOf p1 (vl q out ns) 0 = (i : Int) ∧ q ns[i] - dg out ns[i] = 1 := by
 obtain ⟨i, hi, h1, h2⟩ := idxOf_at (vl q out ns) 0 (by omega);have hi' : i < ns.length := (by unfold vl at hi; rwa [List.length_map] at hi);refine ⟨i, hi', by rw [h1, Nat.zero_add], ?_⟩
 have h3 : wrap64 (q ns[i] - dg out ns[i]) = 1 := by
  simpa [vl] using h2
 have hr := C.rng ns[i] (List.getElem_mem _);have hb := hq _ hr.1 hr.2;have hs := QP out ns[i];have hc := C.cnt;exact (wrap_one _ _ hb.1 hb.2 (by omega)).1 h3
theorem ear_cut {n : Int} {q : Int → Int} (hn : n ≤ 12) (hq : ∀ c, 0 ≤ c → c < n → -9223372036854775808 ≤ q c ∧ q c ≤ 9223372036854775807) (e : Nat) : ∀ {ns : List Int} {out : List DG} {ns' : List Int} {out' : List DG}, Cut n q ns out → ns.length = e + 3 → ear q e ns out = some (ns', out') → Cut n q ns' out' ∧ ns'.length = 3 := by
 induction e with
 | zero =>
  intro ns out ns' out' C hl h;simp only [ear, Option.some.injEq, Prod.mk.injEq] at h;obtain ⟨rfl, rfl⟩ := h;exact ⟨C, hl⟩
 | succ e ih =>
  intro ns out ns' out' C hl h;simp only [ear] at h;by_cases h0 : idxOf p1 (vl q out ns) 0 < 0
  ·rw [if_pos h0] at h;exact absurd h (by simp)
  ·rw [if_neg h0] at h;obtain ⟨i, hi, hf, h1⟩ := ear_snd C hn hq h0;rw [hf, Int.toNat_natCast] at h;exact ih (C.step (by omega) i hi h1) (by rw [List.length_eraseIdx, if_pos hi]; omega) h
theorem dg_mono (l : List DG) (d : DG) (c : Int) : dg l c ≤ dg (l ++ [d]) c := by
 rw [dg_snoc];split <;> split <;> omega
theorem mem_erase {ns : List Int} {i : Nat} (hi : i < ns.length) {c : Int} (hc : c ∈ ns) (hne : c ≠ ns[i]) : c ∈ ns.eraseIdx i := by
 obtain ⟨j, hj, rfl⟩ := List.getElem_of_mem hc;refine List.mem_eraseIdx_iff_getElem.2 ⟨j, hj, fun h => ?_, rfl⟩;subst h;exact hne rfl
/-- What stands below 1 stays below 1. -/
theorem ear_bad {n : Int} {q : Int → Int} (hn : n ≤ 12) (hq : ∀ c, 0 ≤ c → c < n → -9223372036854775808 ≤ q c ∧ q c ≤ 9223372036854775807) (e : Nat) : ∀ {ns : List Int} {out : List DG} {ns' : List Int} {out' : List DG}, Cut n q ns out → ns.length = e + 3 → (∃ c ∈ ns, q c - dg out c < 1) → ear q e ns out = some (ns', out') → ∃ c ∈ ns', q c - dg out' c < 1 := by
 induction e with
 | zero =>
  intro ns out ns' out' _ _ hb h;simp only [ear, Option.some.injEq, Prod.mk.injEq] at h;obtain ⟨rfl, rfl⟩ := h;exact hb
 | succ e ih =>
  intro ns out ns' out' C hl ⟨c, hc, hb⟩ h;simp only [ear] at h;by_cases h0 : idxOf p1 (vl q out ns) 0 < 0
  ·rw [if_pos h0] at h;exact absurd h (by simp)
  ·rw [if_neg h0] at h;obtain ⟨i, hi, hf, h1⟩ := ear_snd C hn hq h0;rw [hf, Int.toNat_natCast] at h;refine ih (C.step (by omega) i hi h1) (by rw [List.length_eraseIdx, if_pos hi]; omega) ⟨c, mem_erase hi hc (fun h2 => ?_), ?_⟩ h
   ·subst h2; omega
   ·have := dg_mono out (dOf ns i) c;omega
theorem getD_set (l : List Int) (a : Nat) (v : Int) (j : Nat) (ha : a < l.length) : (l.set a v).getD j 0 = if j = a then v else l.getD j 0 := by
 rw [List.getD_eq_getElem?_getD, List.getD_eq_getElem?_getD, List.getElem?_set];by_cases h : j = a
 ·subst h; simp [ha]
 ·rw [if_neg (by omega), if_neg h]
theorem vl_at (q : Int → Int) (out : List DG) (ns : List Int) (j : Nat) (h : j < ns.length) : (vl q out ns).getD j 0 = wrap64 (q ns[j] - dg out ns[j]) := by
 rw [List.getD_eq_getElem?_getD, List.getElem?_eq_getElem (by unfold vl; rw [List.length_map]; exact h)];simp [vl]
theorem erase_ext (l m : List Int) (i : Nat) (hl : l.length = m.length) (h : ∀ j, j < l.length → j ≠ i → l.getD j 0 = m.getD j 0) : l.eraseIdx i = m.eraseIdx i := by
 have e : l.set i 0 = m.set i 0 := by
  apply List.ext_getElem (by simpa using hl);intro j h1 h2;rw [List.length_set] at h1 h2;by_cases hj : j = i
  ·subst hj;rw [List.getElem_set_self, List.getElem_set_self]
  ·rw [List.getElem_set_ne (by omega), List.getElem_set_ne (by omega)];have := h j h1 hj;rw [getD_at l j h1, getD_at m j h2] at this;exact this
 rw [← List.eraseIdx_set_eq (l := l) (i := i) (a := 0), e, List.eraseIdx_set_eq]
theorem ahd_lt (m i : Nat) (h : i < m) : ahd m i < m := by unfold ahd; split <;> omega
theorem bhd_lt (m i : Nat) (h : i < m) (h4 : 4 ≤ m) : bhd m i < m := by unfold bhd; split <;> omega
theorem ahd_ne (m i : Nat) (h : i < m) (h4 : 4 ≤ m) : ahd m i ≠ bhd m i ∧ ahd m i ≠ i ∧ bhd m i ≠ i := by
 unfold ahd bhd;by_cases h0 : i = 0
 ·rw [if_pos h0, if_neg (by omega)]; omega
 ·by_cases h1 : i = m - 1
  ·rw [if_neg h0, if_pos h1]; omega
  ·rw [if_neg h0, if_neg h1]; omega
theorem map_erase {α β : Type} (f : α → β) (l : List α) (i : Nat) : (l.eraseIdx i).map f = (l.map f).eraseIdx i := by
 rw [List.eraseIdx_eq_take_drop_succ, List.eraseIdx_eq_take_drop_succ, List.map_append, List.map_take, List.map_drop]
/-- The list with one less at both neighbours. -/
def Zp (X : List Int) (a b : Nat) : List Int := (X.set a (wrap64 (X.getD a 0 - 1))).set b (wrap64 ((X.set a (wrap64 (X.getD a 0 - 1))).getD b 0 - 1))
theorem ZU (X : List Int) (a b : Nat) : (Zp X a b).length = X.length := by unfold Zp; rw [List.length_set, List.length_set]
theorem vl_pt {n : Int} {q : Int → Int} {ns : List Int} {out : List DG} (C : Cut n q ns out) (h4 : 4 ≤ ns.length) (i : Nat) (hi : i < ns.length) :
  ∀ j (hj : j < ns.length), j ≠ i → (Zp (vl q out ns) (ahd ns.length i) (bhd ns.length i)).getD j 0 = wrap64 (q ns[j] - dg (out ++ [dOf ns i]) ns[j]) := by
 have ha := ahd_lt ns.length i hi;have hb := bhd_lt ns.length i hi h4;obtain ⟨n1, n2, n3⟩ := ahd_ne ns.length i hi h4;obtain ⟨a, ea⟩ : ∃ a, a = ahd ns.length i := ⟨_, rfl⟩;obtain ⟨b, eb⟩ : ∃ b, b = bhd ns.length i := ⟨_, rfl⟩;have hv : (vl q out ns).length = ns.length := by unfold vl; rw [List.length_map]
 have inj : ∀ j k (hj : j < ns.length) (hk : k < ns.length), ns[j] = ns[k] → j = k := fun j k hj hk h => by
  rcases Nat.lt_trichotomy j k with c | c | c
  ·have := List.pairwise_iff_getElem.1 C.rise j k hj hk c; omega
  ·exact c
  ·have := List.pairwise_iff_getElem.1 C.rise k j hk hj c; omega
 rw [← ea] at ha n1 n2;rw [← eb] at hb n1 n3;rw [← ea, ← eb]
 have hd : (dOf ns i).f0 = min ns[a] ns[b] ∧ (dOf ns i).f1 = max ns[a] ns[b] := by
  unfold dOf;rw [← ea, ← eb, getD_at ns a ha, getD_at ns b hb];exact ⟨rfl, rfl⟩
 intro j hj hji;unfold Zp;rw [getD_set _ _ _ _ (by rw [List.length_set]; omega), getD_set _ _ _ _ (by omega), getD_set _ _ _ _ (by omega), vl_at _ _ _ j hj, vl_at _ _ _ a ha, vl_at _ _ _ b hb, dg_snoc, hd.1, hd.2, if_neg (by omega : ¬ b = a), wrap_wrap, wrap_wrap];by_cases h1 : j = b
 ·subst h1;rw [if_pos rfl];have : ¬ ns[a] = ns[j] := fun h => n1 (inj _ _ ha hb h);by_cases hh : ns[a] < ns[j]
  ·rw [Int.min_eq_left (by omega), Int.max_eq_right (by omega), if_neg this, if_pos rfl]; congr 1; omega
  ·rw [Int.min_eq_right (by omega), Int.max_eq_left (by omega), if_neg this, if_pos rfl]; congr 1; omega
 ·rw [if_neg h1];have hjb : ¬ ns[b] = ns[j] := fun h => h1 (inj _ _ hb hj h).symm;by_cases h2 : j = a
  ·subst h2;rw [if_pos rfl];by_cases hh : ns[j] < ns[b]
   ·rw [Int.min_eq_left (by omega), Int.max_eq_right (by omega), if_neg hjb, if_pos rfl]; congr 1; omega
   ·rw [Int.min_eq_right (by omega), Int.max_eq_left (by omega), if_neg hjb, if_pos rfl]; congr 1; omega
  ·rw [if_neg h2];have hja : ¬ ns[a] = ns[j] := fun h => h2 (inj _ _ ha hj h).symm;rw [show (if min ns[a] ns[b] = ns[j] then (1 : Int) else 0) = 0 by rw [if_neg]; omega, show (if max ns[a] ns[b] = ns[j] then (1 : Int) else 0) = 0 by rw [if_neg]; omega];congr 1
/-- The two neighbours lose one; the corner goes. -/
theorem vl_step {n : Int} {q : Int → Int} {ns : List Int} {out : List DG} (C : Cut n q ns out) (h4 : 4 ≤ ns.length) (i : Nat) (hi : i < ns.length) :
  (Zp (vl q out ns) (ahd ns.length i) (bhd ns.length i)).eraseIdx i = vl q (out ++ [dOf ns i]) (ns.eraseIdx i) := by
 have hv : (vl q out ns).length = ns.length := (by unfold vl; rw [List.length_map]);rw [show vl q (out ++ [dOf ns i]) (ns.eraseIdx i) = (vl q (out ++ [dOf ns i]) ns).eraseIdx i from map_erase _ _ _];have hv2 : (vl q (out ++ [dOf ns i]) ns).length = ns.length := (by unfold vl; rw [List.length_map]);refine erase_ext _ _ i (by rw [ZU]; omega) (fun j hj hji => ?_);rw [ZU, hv] at hj;rw [vl_pt C h4 i hi j hj hji, vl_at _ _ _ j hj]
theorem Cut.small {n : Int} {q : Int → Int} {ns : List Int} {out : List DG} (C : Cut n q ns out) (hn : n ≤ 12) (c : Int) : 0 ≤ dg out c ∧ dg out c ≤ 1000 := by
 have h1 := QP out c;have h2 := C.cnt;omega
/-- One has as many ends of its diagonals as it has diagonals there. -/
theorem dg_le (l : List DG) (h : ∀ d ∈ l, d.f0 < d.f1) (c : Int) : dg l c ≤ (l.length : Int) := by
 induction l with
 | nil => simp [dg]
 | cons d l ih =>
  have h1 := h d (List.mem_cons_self ..);have h2 := ih (fun x hx => h x (List.mem_cons_of_mem _ hx));rw [dg_cons, List.length_cons];by_cases e0 : d.f0 = c
  ·rw [if_pos e0, if_neg (by omega)]; omega
  ·rw [if_neg e0]; split <;> omega
/-- At the end: one each. -/
theorem Cut.fin {n : Int} {q : Int → Int} {ns : List Int} {out : List DG} (C : Cut n q ns out) (h3 : 3 ≤ n ∧ n ≤ 12) (hq : ∀ c, 0 ≤ c → c < n → -9223372036854775808 ≤ q c ∧ q c ≤ 9223372036854775807) (h : ∀ c ∈ ns, q c - dg out c = 1) : ∀ c, 0 ≤ c → c < n → q c = 1 + dg out c := by
 intro c h0 h1;by_cases hc : c ∈ ns
 ·have := h c hc; omega
 ·exact C.gone c h0 h1 hc
theorem all1 {n : Int} {q : Int → Int} {ns : List Int} {out : List DG} (C : Cut n q ns out) (h3 : 3 ≤ n ∧ n ≤ 12) (hq : ∀ c, 0 ≤ c → c < n → -9223372036854775808 ≤ q c ∧ q c ≤ 9223372036854775807) (hl : ns.length = 3) : vl q out ns = [1, 1, 1] ↔ ∀ c ∈ ns, q c - dg out c = 1 := by
 obtain ⟨a, b, c, rfl⟩ : ∃ a b c, ns = [a, b, c] := by
  match ns, hl with
  | [a, b, c], _ => exact ⟨a, b, c, rfl⟩
 have ra := C.rng a (by simp);have rb := C.rng b (by simp);have rc := C.rng c (by simp);have wa := wrap_one (q a) (dg out a) (hq a ra.1 ra.2).1 (hq a ra.1 ra.2).2 (C.small h3.2 a);have wb := wrap_one (q b) (dg out b) (hq b rb.1 rb.2).1 (hq b rb.1 rb.2).2 (C.small h3.2 b);have wc := wrap_one (q c) (dg out c) (hq c rc.1 rc.2).1 (hq c rc.1 rc.2).2 (C.small h3.2 c);simp only [vl, List.map_cons, List.map_nil, List.cons.injEq, and_true, wa, wb, wc, List.mem_cons, List.not_mem_nil, or_false, forall_eq_or_imp, forall_eq]
theorem Cut.start (n : Int) (q : Int → Int) (h3 : 3 ≤ n ∧ n ≤ 12) : Cut n q ((List.range n.toNat).map fun i : Nat => (i : Int)) [] where
 rise := by
  rw [List.pairwise_map];exact List.pairwise_lt_range.imp (fun h => by omega)
 rng := fun c hc => by
  obtain ⟨i, hi, rfl⟩ := List.mem_map.1 hc;rw [List.mem_range] at hi;omega
 gone := fun c h0 h1 hc => absurd (List.mem_map.2 ⟨c.toNat, List.mem_range.2 (by omega), Int.toNat_of_nonneg h0⟩) hc
 ok := by simp
 side := by simp
 nc := by simp
 new := by simp
 cnt := by rw [List.length_nil, List.length_map, List.length_range]; omega
/-- Sorted, what has been cut is a triangulation. -/
theorem Cut.tri {n : Int} {q : Int → Int} {ns : List Int} {out s : List DG} (C : Cut n q ns out) (h3 : 3 ≤ n ∧ n ≤ 12) (hl : ns.length = 3) (hp : out.Perm s) (hs : s.Pairwise fun d e => d.f0 < e.f0 ∨ (d.f0 = e.f0 ∧ d.f1 ≤ e.f1)) : Tri n s where
 n3 := h3
 len := by
  have := C.cnt;rw [← hp.length_eq];omega
 ok := fun d hd => C.ok d (hp.mem_iff.2 hd)
 nc := fun d hd e he => C.nc d (hp.mem_iff.2 hd) e (hp.mem_iff.2 he)
 sorted := by
  have h1 : s.Pairwise fun d e => ¬ (d.f0 = e.f0 ∧ d.f1 = e.f1) := hp.pairwise C.new (fun h h2 => h ⟨h2.1.symm, h2.2.symm⟩);exact (hs.and h1).imp (fun ⟨a, b⟩ => by omega)

theorem QA (l : List Int) (j : Nat) : rd l (j : Int) = l.getD j 0 := rfl
theorem mod_a (m i : Nat) (hi : i < m) (h4 : 4 ≤ m) (h12 : m ≤ 12) : Int.tmod (wrap64 ((wrap64 ((i : Int) + (m : Int))) - 1)) (m : Int) = ((ahd m i : Nat) : Int) := by
 have w : wrap64 ((wrap64 ((i : Int) + (m : Int))) - 1) = (i : Int) + (m : Int) - 1 := (by unfold wrap64; omega);rw [w, Int.tmod_eq_emod_of_nonneg (by omega)];have : m = 4 ∨ m = 5 ∨ m = 6 ∨ m = 7 ∨ m = 8 ∨ m = 9 ∨ m = 10 ∨ m = 11 ∨ m = 12 := (by omega);unfold ahd;rcases this with rfl | rfl | rfl | rfl | rfl | rfl | rfl | rfl | rfl <;> split <;> omega
theorem mod_b (m i : Nat) (hi : i < m) (h4 : 4 ≤ m) (h12 : m ≤ 12) : Int.tmod (wrap64 ((i : Int) + 1)) (m : Int) = ((bhd m i : Nat) : Int) := by
 have w : wrap64 ((i : Int) + 1) = (i : Int) + 1 := (by unfold wrap64; omega);rw [w, Int.tmod_eq_emod_of_nonneg (by omega)];have : m = 4 ∨ m = 5 ∨ m = 6 ∨ m = 7 ∨ m = 8 ∨ m = 9 ∨ m = 10 ∨ m = 11 ∨ m = 12 := (by omega);unfold bhd;rcases this with rfl | rfl | rfl | rfl | rfl | rfl | rfl | rfl | rfl <;> split <;> omega
theorem Jw (X : List Int) (hX : X.length ≤ 1000) : ∀ (d j k : Nat), j + d = X.length → d < k → zo.l0 k X 1 (X.length : Int) (j : Int) = some (idxOf p1 (X.drop j) j)
 | 0, j, k, hj, hk => by
  obtain ⟨k, rfl⟩ : ∃ q, k = q + 1 := ⟨k - 1, by omega⟩;simp only [zo.l0];rw [if_neg (by omega), List.drop_of_length_le (by omega)];rfl
 | d + 1, j, k, hj, hk => by
  obtain ⟨k, rfl⟩ : ∃ q, k = q + 1 := ⟨k - 1, by omega⟩;simp only [zo.l0];rw [if_pos (by omega), if_pos (by omega), if_pos (by omega), zK j (by omega), Jw X hX d (j + 1) k (by omega) (by omega), kG p1 0 X j (by omega), QA];unfold p1;by_cases h : X.getD j 0 = 1
  ·rw [if_pos h.symm, if_pos (decide_eq_true h)]
  ·rw [if_neg (fun e => h e.symm), if_neg (by simpa using h)]
theorem index_tells (X : List Int) (hX : X.length ≤ 1000) (k : Nat) (hk : X.length < k) : zo.f k X 1 = some (idxOf p1 X 0) := by
 have h := Jw X hX X.length 0 k (by omega) hk;rw [List.drop_zero] at h;exact h
theorem JL (X : List Int) (i : Nat) (hi : i < X.length) (hX : X.length ≤ 1000) : jD.f X (i : Int) (wrap64 ((i : Int) + 1)) = some (X.eraseIdx i) := by
 unfold jD.f;have w : wrap64 ((i : Int) + 1) = (i : Int) + 1 := (by unfold wrap64; omega);rw [w, if_pos ⟨by omega, rfl, by omega⟩, Int.toNat_natCast]
theorem mnmin (a b : Int) : mn a b = min a b := by unfold mn; split <;> omega
theorem mxmax (a b : Int) : mx a b = max a b := by unfold mx; split <;> omega
theorem l1_step (x0 X ns : List Int) (out : List DG) (m i k : Nat) (hX : X.length = m) (hn : ns.length = m) (h4 : 4 ≤ m) (h12 : m ≤ 12) (hi : i < m) (ho : out.length ≤ 1000) (hk : 20 < k) (hidx : idxOf p1 X 0 = (i : Int)) :
  qA.l1 (k + 1) x0 X ns out (m : Int) = qA.l1 k x0 ((Zp X (ahd m i) (bhd m i)).eraseIdx i) (ns.eraseIdx i) (out ++ [dOf ns i]) ((m - 1 : Nat) : Int) := by
 have ha := ahd_lt m i hi;have hb := bhd_lt m i hi h4;have hl := ZU X (ahd m i) (bhd m i);have e1 : wrap64 ((m : Int) - 1) = ((m - 1 : Nat) : Int) := (by unfold wrap64; omega);simp only [qA.l1];rw [if_pos (by omega), index_tells X (by omega) k (by omega), hidx, Option.bind_some, if_neg (by omega), if_neg (by omega), mod_a m i hi h4 h12, mod_b m i hi h4 h12, if_pos (by omega), if_pos (by omega), Option.bind_some, if_pos (by omega), if_pos (by omega), if_pos (by omega), if_pos (by omega), if_pos (by omega), e1];simp only [Int.toNat_natCast, QA];rw [show (X.set (ahd m i) (wrap64 (X.getD (ahd m i) 0 - 1))).set (bhd m i) (wrap64 ((X.set (ahd m i) (wrap64 (X.getD (ahd m i) 0 - 1))).getD (bhd m i) 0 - 1)) = Zp X (ahd m i) (bhd m i) from rfl, JL _ i (by omega) (by omega), Option.bind_some, JL _ i (by omega) (by omega), Option.bind_some]
 have e2 : (⟨mn (ns.getD (ahd m i) 0) (ns.getD (bhd m i) 0), mx (ns.getD (ahd m i) 0) (ns.getD (bhd m i) 0)⟩ : DG) = dOf ns i := by
  unfold dOf;rw [mnmin, mxmax, hn]
 rw [e2]
theorem QC (q : Int → Int) (out : List DG) (ns : List Int) : (vl q out ns).length = ns.length := by unfold vl; rw [List.length_map]
theorem tri_rounds {n : Int} {q : Int → Int} (hn : n ≤ 12) (hq : ∀ c, 0 ≤ c → c < n → -9223372036854775808 ≤ q c ∧ q c ≤ 9223372036854775807) (x0 : List Int) (e : Nat) : ∀ (ns : List Int) (out : List DG) (k : Nat), Cut n q ns out → ns.length = e + 3 → 30 < k →
  qA.l1 (k + e) x0 (vl q out ns) ns out (ns.length : Int) = match ear q e ns out with
   | none => some ([], false)
   | some (ns', out') => qA.l1 k x0 (vl q out' ns') ns' out' 3 := by
 induction e with
 | zero =>
  intro ns out k C hl hk;simp only [ear, hl];rfl
 | succ e ih =>
  intro ns out k C hl hk;have hc := C.cnt;have hg : ∀ c ∈ ns, 0 ≤ c ∧ c < n := C.rng;have hm : ns.length ≤ 12 := (by omega);simp only [ear];by_cases h0 : idxOf p1 (vl q out ns) 0 < 0
  ·rw [if_pos h0];rw [← Nat.add_assoc];simp only [qA.l1];rw [if_pos (by omega), index_tells _ (by rw [QC]; omega) _ (by rw [QC]; omega), Option.bind_some, if_pos h0]
  ·rw [if_neg h0];obtain ⟨i, hi, hf, h1⟩ := ear_snd C hn hq h0;have hs := l1_step x0 (vl q out ns) ns out ns.length i (k + e) (QC _ _ _) rfl (by omega) (by omega) hi (by omega) (by omega) hf;rw [vl_step C (by omega) i hi] at hs;have hlen : (ns.eraseIdx i).length = e + 3 := (by rw [List.length_eraseIdx, if_pos hi]; omega);rw [← Nat.add_assoc, hs, hf, Int.toNat_natCast, show ns.length - 1 = (ns.eraseIdx i).length by omega];exact ih _ _ k (C.step (by omega) i hi h1) hlen hk
theorem JJ (l m : List Int) (hl : l.length = m.length) (hb : l.length ≤ 1000) : ∀ (d j k : Nat), j + d = l.length → d < k → qO.l0 k l m (l.length : Int) (j : Int) = some (decide (l.drop j = m.drop j))
 | 0, j, k, hj, hk => by
  obtain ⟨k, rfl⟩ : ∃ q, k = q + 1 := ⟨k - 1, by omega⟩;simp only [qO.l0];rw [if_neg (by omega), List.drop_of_length_le (show l.length ≤ j by omega), List.drop_of_length_le (show m.length ≤ j by omega)];simp
 | d + 1, j, k, hj, hk => by
  obtain ⟨k, rfl⟩ : ∃ q, k = q + 1 := ⟨k - 1, by omega⟩;simp only [qO.l0];rw [if_pos (by omega), if_pos (by omega), if_pos (by omega), if_pos (by omega), zK j (by omega), JJ l m hl hb d (j + 1) k (by omega) (by omega), QA, QA, getD_drop l 0 j (by omega), getD_drop m 0 j (by omega)];by_cases h : l.getD j 0 = m.getD j 0
  ·rw [if_pos h];congr 1;rw [decide_eq_decide, h];simp
  ·rw [if_neg h];congr 1;symm;rw [decide_eq_false_iff_not];intro e;injection e with e1 _;exact h e1
theorem Z0 (l m : List Int) (hb : l.length ≤ 1000) (k : Nat) (hk : l.length < k) : qO.f k l m = some (decide (l = m)) := by
 unfold qO.f;by_cases h : l.length = m.length
 ·rw [if_pos (by omega)];have := JJ l m h hb l.length 0 k (by omega) hk;simpa using this
 ·rw [if_neg (by omega)];congr 1;symm;rw [decide_eq_false_iff_not];intro e;exact h (congrArg _ e)
/-- The list is a quiddity. -/
def QG (q : Int → Int) (n : Nat) : Bool := match ear q (n - 3) ((List.range n).map fun i : Nat => (i : Int)) [] with
 | none => false
 | some (ns', out') => decide (vl q out' ns' = [1, 1, 1])
/-- At the end the program compares. -/
theorem tri_end (x0 : List Int) {n : Int} (h3 : 3 ≤ n ∧ n ≤ 12) (hx : (x0.length : Int) = n) (hq : ∀ c, 0 ≤ c → c < n → -9223372036854775808 ≤ rd x0 c ∧ rd x0 c ≤ 9223372036854775807) {ns : List Int} {out : List DG} (C : Cut n (rd x0) ns out) (hl : ns.length = 3) :
  ∃ K, ∀ k, K ≤ k → ∃ r, qA.l1 k x0 (vl (rd x0) out ns) ns out 3 = some (r, decide (vl (rd x0) out ns = [1, 1, 1])) := by
 have hc := C.cnt;obtain ⟨s, hs, hsort, hperm⟩ := wM out (by omega) 500 (by omega);have T := C.tri h3 hl hperm.symm (hsort.imp (fun h => h));obtain ⟨K1, hK1⟩ := isTri_tells n s (by have := hperm.length_eq; omega);obtain ⟨R, r1, r2, r3⟩ := ZB n s h3 (by have := hperm.length_eq; omega) (fun d hd => by have := T.ok d hd; omega);refine ⟨K1 + 2000, fun k hk => ?_⟩;obtain ⟨k, rfl⟩ : ∃ q, k = q + 1 := ⟨k - 1, by omega⟩;obtain ⟨s', hs', hsort', hperm'⟩ := wM out (by omega) k (by omega);have es : s' = s := uI (hperm'.trans hperm.symm) hsort' hsort;rw [es] at hs';simp only [qA.l1];rw [if_neg (by omega), hs', Option.bind_some, Z0 _ _ (by rw [QC]; omega) k (by rw [QC]; omega), Option.bind_some];by_cases h : vl (rd x0) out ns = [1, 1, 1]
 ·have hall := C.fin h3 hq ((all1 C h3 hq hl).1 h)
  have hgood : vE n s = true := by
   unfold vE;rw [good_tri n s T, decide_eq_true h3, decide_eq_true T.len];rfl
  have hR : R = x0 := ext_rd _ _ (by omega) (fun i h0 h1 => by
   rw [r2 i h0 (by omega), hall i h0 (by omega), dg_perm hperm])
  have q1 : qi.f k (x0.length : Int) s = some true := by
   rw [hx, ← hgood];exact hK1 k (by omega)
  have q2 : zY.f k (x0.length : Int) s = some x0 := by
   rw [hx, ← hR];have hk2 : s.length + 20 < k := (by have := hperm.length_eq; omega);first
   | exact r3 k hk2
   | exact (r3 k hk2).2
  rw [if_pos (decide_eq_true h), q1, Option.bind_some, if_pos rfl, q2, Option.bind_some, Z0 _ _ (by omega) k (by omega), Option.bind_some, if_pos (decide_eq_true rfl), decide_eq_true h];exact ⟨_, rfl⟩
 ·rw [if_neg (by simpa using h), decide_eq_false h];exact ⟨_, rfl⟩
theorem J9 (x0 x4 : List Int) (x6 : List DG) (N : Nat) (hN : N ≤ 1000) : ∀ (d j k : Nat), j + d = N → qA.l0 (k + d + 1) x0 x4 ((List.range j).map fun i : Nat => (i : Int)) x6 (N : Int) (j : Int) = qA.l1 k x0 x4 ((List.range N).map fun i : Nat => (i : Int)) x6 (x4.length : Int)
 | 0, j, k, hj => by
  simp only [qA.l0];rw [if_neg (by omega), show j = N by omega]
 | d + 1, j, k, hj => by
  rw [show k + (d + 1) + 1 = (k + d + 1) + 1 by omega];simp only [qA.l0];rw [if_pos (by omega), if_pos (by rw [List.length_map, List.length_range]; omega), zK j (by omega)];have h := J9 x0 x4 x6 N hN d (j + 1) k (by omega);rw [List.range_succ, List.map_append] at h;exact h
theorem start_vl (x0 : List Int) (hq : ∀ c : Int, 0 ≤ c → c < (x0.length : Int) → -9223372036854775808 ≤ rd x0 c ∧ rd x0 c ≤ 9223372036854775807) : vl (rd x0) [] ((List.range x0.length).map fun i : Nat => (i : Int)) = x0 := by
 have hnl : ((List.range x0.length).map fun i : Nat => (i : Int)).length = x0.length := (by rw [List.length_map, List.length_range]);refine ext_rd _ _ (by rw [QC, hnl]) (fun i h0 h1 => ?_);rw [QC, hnl] at h1;have hb := hq i h0 (by omega);have e : i = ((i.toNat : Nat) : Int) := (by omega);have w : wrap64 (rd x0 i) = rd x0 i := wrap_id _ hb.1 hb.2;rw [e, QA, vl_at _ _ _ _ (by rw [hnl]; omega)];simpa [dg, ← e] using w
theorem ZW (x0 : List Int) (hq : ∀ c : Int, 0 ≤ c → c < (x0.length : Int) → -9223372036854775808 ≤ rd x0 c ∧ rd x0 c ≤ 9223372036854775807) (hl : x0.length ≤ 1048576) :
  ∃ K, ∀ k, K ≤ k → ∃ r, qA.f k x0 = some (r, decide (3 ≤ (x0.length : Int) ∧ (x0.length : Int) ≤ 12) && QG (rd x0) x0.length) := by
 by_cases h3 : 3 ≤ (x0.length : Int) ∧ (x0.length : Int) ≤ 12
 ·have C := Cut.start (x0.length : Int) (rd x0) h3;rw [Int.toNat_natCast] at C;have hnl : ((List.range x0.length).map fun i : Nat => (i : Int)).length = x0.length - 3 + 3 := (by rw [List.length_map, List.length_range]; omega);have hv : vl (rd x0) [] ((List.range x0.length).map fun i : Nat => (i : Int)) = x0 := start_vl x0 hq;have hfin : ∃ K, ∀ k, K ≤ k → ∃ r, (match ear (rd x0) (x0.length - 3) ((List.range x0.length).map fun i : Nat => (i : Int)) [] with
   | none => some (([] : List DG), false)
   | some (ns', out') => qA.l1 k x0 (vl (rd x0) out' ns') ns' out' 3) = some (r, QG (rd x0) x0.length) := by
   unfold QG;cases he : ear (rd x0) (x0.length - 3) ((List.range x0.length).map fun i : Nat => (i : Int)) [] with
   | none => exact ⟨0, fun k _ => ⟨_, rfl⟩⟩
   | some p =>
    obtain ⟨ns', out'⟩ := p;obtain ⟨C', h3'⟩ := ear_cut h3.2 hq _ C hnl he;exact tri_end x0 h3 rfl hq C' h3'
  obtain ⟨K, hK⟩ := hfin;refine ⟨K + 2 * x0.length + 50, fun k hk => ?_⟩;obtain ⟨r, hr⟩ := hK (k - (x0.length - 3) - (x0.length + 1)) (by omega);refine ⟨r, ?_⟩;have h1 := J9 x0 x0 [] x0.length (by omega) x0.length 0 (k - (x0.length + 1)) (by omega);have h2 := tri_rounds h3.2 hq x0 (x0.length - 3) _ [] (k - (x0.length - 3) - (x0.length + 1)) C hnl (by omega);rw [hv, hr, hnl, show k - (x0.length - 3) - (x0.length + 1) + (x0.length - 3) = k - (x0.length + 1) by omega, show x0.length - 3 + 3 = x0.length by omega] at h2;rw [show k - (x0.length + 1) + x0.length + 1 = k by omega, h2] at h1;unfold qA.f xc.f;rw [kT, decide_eq_true h3, Option.bind_some, if_pos rfl, if_pos (by omega), Option.bind_some, Bool.true_and];exact h1
 ·refine ⟨0, fun k _ => ⟨[], ?_⟩⟩;unfold qA.f;rw [kT, decide_eq_false h3, Option.bind_some, if_neg (by simp), Bool.false_and]
theorem isQ_tells (x0 : List Int) (hq : ∀ c : Int, 0 ≤ c → c < (x0.length : Int) → -9223372036854775808 ≤ rd x0 c ∧ rd x0 c ≤ 9223372036854775807) (hl : x0.length ≤ 1048576) :
  Ev (fun k => jC.f k x0) (decide (3 ≤ (x0.length : Int) ∧ (x0.length : Int) ≤ 12) && QG (rd x0) x0.length) := by
 obtain ⟨K, hK⟩ := ZW x0 hq hl;refine ⟨K, fun k hk => ?_⟩;obtain ⟨r, hr⟩ := hK k hk;show jC.f k x0 = _;unfold jC.f;rw [hr];rfl

def okQ (x : Int) : Bool := decide (1 ≤ x ∧ x ≤ 12)
theorem allq_rounds (l : List Int) (hl : l.length ≤ 1048576) (e : Nat) : ∀ (i k : Nat), i + e = l.length → e < k → jH.l0 k 1 12 l (l.length : Int) (i : Int) = some ((l.drop i).all okQ) := by
 induction e with
 | zero =>
  intro i k hi hk;obtain ⟨k, rfl⟩ : ∃ q, k = q + 1 := ⟨k - 1, by omega⟩;simp only [jH.l0];rw [if_neg (by omega), List.drop_of_length_le (by omega)];rfl
 | succ e ih =>
  intro i k hi hk;obtain ⟨k, rfl⟩ : ∃ q, k = q + 1 := ⟨k - 1, by omega⟩;simp only [jH.l0];rw [if_pos (by omega), if_pos (by omega), if_pos (by omega), vS, Option.bind_some, zK i (by omega), ih (i + 1) k (by omega) (by omega), QA, getD_drop l 0 i (by omega), List.all_cons];unfold okQ;cases decide (1 ≤ l.getD i 0 ∧ l.getD i 0 ≤ 12) <;> simp
theorem ZV (l : List Int) (hl : l.length ≤ 1048576) : xO.f l = some l := by
 unfold xO.f;rw [Option.bind_some, if_pos (by simp only [List.length_nil]; omega), List.nil_append]
theorem Qz (X x5 : List Int) (x7 : List DG) (hX : X.length ≤ 1000) : ∀ (d j : Nat) (x8 : Int) (k : Nat), j + d = X.length → x8 = -1 ∨ 0 ≤ x8 → qp.l2 (k + d) X x5 x7 x8 X (X.length : Int) (j : Int) = qp.l2 k X x5 x7 (if x8 < 0 then idxOf p1 (X.drop j) j else x8) X (X.length : Int) (X.length : Int)
 | 0, j, x8, k, hj, h8 => by
  rw [List.drop_of_length_le (by omega), show j = X.length by omega, Nat.add_zero];rcases h8 with h | h
  ·rw [if_pos (by omega), h];rfl
  ·rw [if_neg (by omega)]
 | d + 1, j, x8, k, hj, h8 => by
  rw [show qp.l2 (k + (d + 1)) X x5 x7 x8 X (X.length : Int) (j : Int) = qp.l2 (k + d + 1) X x5 x7 x8 X (X.length : Int) (j : Int) from rfl, qp.l2.eq_def];simp only;rw [if_pos (by omega), if_pos (by omega), if_pos (by omega), zK j (by omega), QA, kG p1 0 X j (by omega)];unfold p1;by_cases h : X.getD j 0 = 1
  ·rw [if_pos h, if_pos (decide_eq_true h)];by_cases hx : x8 < 0
   ·rw [if_pos hx, if_pos hx, Qz X x5 x7 hX d (j + 1) (j : Int) k (by omega) (Or.inr (by omega)), if_neg (by omega)]
   ·rw [if_neg hx, if_neg hx, Qz X x5 x7 hX d (j + 1) x8 k (by omega) h8, if_neg hx]
  ·rw [if_neg h, Qz X x5 x7 hX d (j + 1) x8 k (by omega) h8, if_neg (show ¬ decide (X.getD j 0 = 1) = true by rw [decide_eq_true_eq]; exact h)];rfl
theorem po_j4 (Y x5 : List Int) (x7 : List DG) (m i k : Nat) (hY : Y.length = m) (h5 : x5.length = m) (h4 : 4 ≤ m) (h12 : m ≤ 12) (hi : i < m) (ho : x7.length ≤ 1000) :
  qp.j4 (k + 1) Y x5 x7 (i : Int) ((ahd m i : Nat) : Int) ((bhd m i : Nat) : Int) false = qp.l1 k (Y.eraseIdx i) (x5.eraseIdx i) (x7 ++ [dOf x5 i]) := by
 have ha := ahd_lt m i hi;have hb := bhd_lt m i hi h4;have w : wrap64 ((i : Int) + 1) = ((i + 1 : Nat) : Int) := (by unfold wrap64; omega);simp only [qp.j4];rw [if_neg (by simp), if_pos (by omega), if_pos (by omega), if_pos (by omega), if_pos (by omega), least_tells, Option.bind_some, most_tells, Option.bind_some, if_pos (by omega), if_pos (by omega), if_pos (by omega), w, Int.toNat_natCast, Int.toNat_natCast, ZV _ (by rw [List.length_take]; omega), Option.bind_some, if_pos (by omega), if_pos (by omega), Option.bind_some, if_pos (by rw [List.length_take, List.length_drop]; omega), if_pos (by omega), ZV _ (by rw [List.length_take]; omega), Option.bind_some, if_pos (by omega), Option.bind_some, if_pos (by rw [List.length_take, List.length_drop]; omega), ← List.eraseIdx_eq_take_drop_succ, ← List.eraseIdx_eq_take_drop_succ]
 have e2 : (⟨min (rd x5 ((ahd m i : Nat) : Int)) (rd x5 ((bhd m i : Nat) : Int)), max (rd x5 ((ahd m i : Nat) : Int)) (rd x5 ((bhd m i : Nat) : Int))⟩ : DG) = dOf x5 i := by
  unfold dOf;rw [h5];rfl
 rw [e2]
theorem po_tail (X x5 : List Int) (x7 : List DG) (m i k : Nat) (hX : X.length = m) (h5 : x5.length = m) (h4 : 4 ≤ m) (h12 : m ≤ 12) (hi : i < m) :
  qp.l2 (k + 1) X x5 x7 (i : Int) X (m : Int) (m : Int) = if (Zp X (ahd m i) (bhd m i)).getD (ahd m i) 0 < 1 then qp.j4 k (Zp X (ahd m i) (bhd m i)) x5 x7 (i : Int) ((ahd m i : Nat) : Int) ((bhd m i : Nat) : Int) true else qp.j4 k (Zp X (ahd m i) (bhd m i)) x5 x7 (i : Int) ((ahd m i : Nat) : Int) ((bhd m i : Nat) : Int) (decide ((Zp X (ahd m i) (bhd m i)).getD (bhd m i) 0 < 1)) := by
 have ha := ahd_lt m i hi;have hb := bhd_lt m i hi h4;simp only [qp.l2, hX];rw [if_neg (by omega), if_neg (by omega), if_neg (by omega), mod_a m i hi h4 h12, mod_b m i hi h4 h12, if_pos (by omega), if_pos (by omega), Option.bind_some, if_pos (by omega), if_pos (by omega), Option.bind_some];simp only [Int.toNat_natCast, QA];rfl
def earEnd (q : Int → Int) : Option (List Int × List DG) → Bool
 | none => false
 | some p => decide (vl q p.2 p.1 = [1, 1, 1])
theorem po_rounds {n : Int} {q : Int → Int} (h3 : 3 ≤ n ∧ n ≤ 12) (hq12 : ∀ c, 0 ≤ c → c < n → 1 ≤ q c ∧ q c ≤ 12) (e : Nat) : ∀ (ns : List Int) (out : List DG) (k : Nat), Cut n q ns out → ns.length = e + 3 → 11100 + 20 * e < k →
  ∃ r, r.length ≤ 12 ∧ qp.l1 k (vl q out ns) ns out = some (r, earEnd q (ear q e ns out)) := by
 have hq : ∀ c, 0 ≤ c → c < n → -9223372036854775808 ≤ q c ∧ q c ≤ 9223372036854775807 := fun c h0 h1 => by have := hq12 c h0 h1; omega
 induction e with
 | zero =>
  intro ns out k C hl hk;obtain ⟨k, rfl⟩ : ∃ q, k = q + 1 := ⟨k - 1, by omega⟩;have hc := C.cnt;obtain ⟨s, hs, _, hsp⟩ := Zz out (by omega) k (by omega)
  obtain ⟨a, b, c, hv⟩ : ∃ a b c, vl q out ns = [a, b, c] := by
   have : (vl q out ns).length = 3 := by rw [QC]; omega
   match vl q out ns, this with
   | [a, b, c], _ => exact ⟨a, b, c, rfl⟩
  refine ⟨s, by rw [hsp.length_eq]; omega, ?_⟩;simp only [ear, earEnd, qp.l1];rw [if_neg (by rw [QC]; omega), hs, Option.bind_some, hv];have r0 : rd [a, b, c] 0 = a := rfl;have r1 : rd [a, b, c] 1 = b := rfl;have r2 : rd [a, b, c] 2 = c := rfl;rw [r0, r1, r2];by_cases e0 : a = 1 <;> by_cases e1 : b = 1 <;> by_cases e2 : c = 1 <;> simp [e0, e1, e2]
 | succ e ih =>
  intro ns out k C hl hk;have hc := C.cnt;have hm : ns.length ≤ 12 := (by omega);obtain ⟨m, em⟩ : ∃ m, m = ns.length := ⟨_, rfl⟩;obtain ⟨k, rfl⟩ : ∃ q, k = q + m + 3 := ⟨k - m - 3, by omega⟩;have hvl : (vl q out ns).length = m := (by rw [QC, em]);rw [show k + m + 3 = (k + 2 + m) + 1 by omega];simp only [qp.l1];rw [if_pos (by omega)];have hlook := Qz (vl q out ns) ns out (by omega) m 0 (-1) (k + 2) (by omega) (Or.inl rfl);rw [if_pos (by omega), List.drop_zero, hvl] at hlook;rw [hvl, show (0 : Int) = ((0 : Nat) : Int) from rfl, hlook];simp only [ear];by_cases h0 : idxOf p1 (vl q out ns) 0 < 0
  ·rw [if_pos h0, show k + 2 = k + 1 + 1 from rfl];simp only [qp.l2];rw [if_neg (by omega), if_pos h0];exact ⟨_, by simp, rfl⟩
  ·rw [if_neg h0];obtain ⟨i, hi, hf, h1⟩ := ear_snd C (by omega) hq h0;have hlen : (ns.eraseIdx i).length = e + 3 := (by rw [List.length_eraseIdx, if_pos hi]; omega);have C' := C.step (by omega) i hi h1;rw [hf, Int.toNat_natCast, show k + 2 = (k + 1) + 1 from rfl, po_tail _ ns out m i (k + 1) hvl em.symm (by omega) (by omega) (by omega)];have ha := ahd_lt m i (by omega);have hb := bhd_lt m i (by omega) (by omega);obtain ⟨n1, n2, n3⟩ := ahd_ne m i (by omega) (by omega)
   have val : ∀ j (hj : j < ns.length), j ≠ i → (Zp (vl q out ns) (ahd m i) (bhd m i)).getD j 0 = q ns[j] - dg (out ++ [dOf ns i]) ns[j] := fun j hj hji => by
    have h := vl_pt C (by omega) i hi j hj hji;rw [← em] at h;rw [h];have hr := C.rng ns[j] (List.getElem_mem _);have h2 := hq12 _ hr.1 hr.2;have h3 := C'.small h3.2 ns[j];exact wrap_id _ (by omega) (by omega)
   have bad : ∀ j (hj : j < ns.length), j ≠ i → q ns[j] - dg (out ++ [dOf ns i]) ns[j] < 1 → earEnd q (ear q e (ns.eraseIdx i) (out ++ [dOf ns i])) = false := fun j hj hji hlt => by
    cases he : ear q e (ns.eraseIdx i) (out ++ [dOf ns i]) with
    | none => rfl
    | some p =>
     obtain ⟨ns', out'⟩ := p;obtain ⟨C2, hl2⟩ := ear_cut h3.2 hq e C' hlen he;obtain ⟨c, hc1, hc2⟩ := ear_bad h3.2 hq e C' hlen ⟨ns[j], List.mem_eraseIdx_iff_getElem.2 ⟨j, hj, hji, rfl⟩, hlt⟩ he;simp only [earEnd, decide_eq_false_iff_not, all1 C2 h3 hq hl2];intro hh;have := hh c hc1;omega
   rw [val _ (by omega) n2, val _ (by omega) n3];by_cases hA : q ns[ahd m i] - dg (out ++ [dOf ns i]) ns[ahd m i] < 1
   ·rw [if_pos hA, bad _ _ n2 hA];simp only [qp.j4, if_true];exact ⟨_, by simp, rfl⟩
   ·rw [if_neg hA];by_cases hB : q ns[bhd m i] - dg (out ++ [dOf ns i]) ns[bhd m i] < 1
    ·rw [decide_eq_true hB, bad _ _ n3 hB];simp only [qp.j4, if_true];exact ⟨_, by simp, rfl⟩
    ·rw [decide_eq_false hB, po_j4 _ ns out m i k (by rw [ZU]; omega) em.symm (by omega) (by omega) (by omega) (by omega)];have hs := vl_step C (by omega) i hi;rw [← em] at hs;rw [hs];exact ih _ _ k C' hlen (by omega)
theorem Zy (x4 : List Int) (N : Nat) (hN : N ≤ 1000) : ∀ (d j k : Nat), j + d = N → qp.l0 (k + d + 1) x4 ((List.range j).map fun i : Nat => (i : Int)) (N : Int) (j : Int) = qp.l1 k x4 ((List.range N).map fun i : Nat => (i : Int)) []
 | 0, j, k, hj => by
  simp only [qp.l0];rw [if_neg (by omega), show j = N by omega]
 | d + 1, j, k, hj => by
  rw [show k + (d + 1) + 1 = (k + d + 1) + 1 by omega];simp only [qp.l0];rw [if_pos (by omega), if_pos (by rw [List.length_map, List.length_range]; omega), zK j (by omega)];have h := Zy x4 N hN d (j + 1) k (by omega);rw [List.range_succ, List.map_append] at h;exact h
/-- What is a quiddity has numbers from 1 to 12. -/
theorem ok_all (x0 : List Int) (h3 : 3 ≤ (x0.length : Int) ∧ (x0.length : Int) ≤ 12) (hq : ∀ c : Int, 0 ≤ c → c < (x0.length : Int) → -9223372036854775808 ≤ rd x0 c ∧ rd x0 c ≤ 9223372036854775807) (h : QG (rd x0) x0.length = true) :
  ∃ s, Tri (x0.length : Int) s ∧ ∀ c : Int, 0 ≤ c → c < (x0.length : Int) → rd x0 c = 1 + dg s c := by
 have C := Cut.start (x0.length : Int) (rd x0) h3;rw [Int.toNat_natCast] at C;unfold QG at h;cases he : ear (rd x0) (x0.length - 3) ((List.range x0.length).map fun i : Nat => (i : Int)) [] with
 | none => rw [he] at h; exact absurd h (by simp)
 | some p =>
  obtain ⟨ns', out'⟩ := p;rw [he] at h;obtain ⟨C', hl'⟩ := ear_cut h3.2 hq _ C (by rw [List.length_map, List.length_range]; omega) he;have hc := C'.cnt;obtain ⟨s, hs, hsort, hperm⟩ := wM out' (by omega) 500 (by omega);have hall := C'.fin h3 hq ((all1 C' h3 hq hl').1 (of_decide_eq_true h));exact ⟨s, C'.tri h3 hl' hperm.symm (hsort.imp (fun h => h)), fun c h0 h1 => by rw [hall c h0 h1, dg_perm hperm]⟩
theorem poOf_tells (x0 : List Int) (hq : ∀ c : Int, 0 ≤ c → c < (x0.length : Int) → -9223372036854775808 ≤ rd x0 c ∧ rd x0 c ≤ 9223372036854775807) (hl : x0.length ≤ 1048576) (k : Nat) (hk : 1100000 < k) :
  ∃ r, r.length ≤ 12 ∧ qp.f k x0 = some (r, decide (3 ≤ (x0.length : Int) ∧ (x0.length : Int) ≤ 12) && QG (rd x0) x0.length) := by
 obtain ⟨k, rfl⟩ : ∃ q, k = q + 1 := ⟨k - 1, by omega⟩;unfold qp.f;rw [Jl, Option.bind_some];by_cases h3 : 3 ≤ (x0.length : Int) ∧ (x0.length : Int) ≤ 12
 ·have hA : jH.f (k + 1) x0 1 12 = some (x0.all okQ) := by
   have h := allq_rounds x0 hl x0.length 0 (k + 1) (by omega) (by omega);rw [List.drop_zero] at h;exact h
  rw [decide_eq_true h3, if_pos rfl, hA, Option.bind_some, Bool.true_and];simp only [qp.j0];cases hall : x0.all okQ
  ·refine ⟨[], by simp, ?_⟩;rw [Bool.not_false, if_pos rfl];cases ho : QG (rd x0) x0.length
   ·rfl
   ·exfalso;obtain ⟨s, T, hs⟩ := ok_all x0 h3 hq ho
    have : x0.all okQ = true := by
     rw [List.all_eq_true];intro x hx;obtain ⟨j, hj, rfl⟩ := List.getElem_of_mem hx;have h1 := hs (j : Int) (by omega) (by omega);have h2 := dg_le s (fun d hd => by have := T.ok d hd; omega) (j : Int);have h4 := QP s (j : Int);have h5 := T.len;rw [QA, getD_at x0 j hj] at h1;unfold okQ;rw [decide_eq_true_eq];omega
    rw [hall] at this;exact absurd this (by simp)
  ·have hq12 : ∀ c : Int, 0 ≤ c → c < (x0.length : Int) → 1 ≤ rd x0 c ∧ rd x0 c ≤ 12 := fun c h0 h1 => by
    have e : c = ((c.toNat : Nat) : Int) := (by omega);have := List.all_eq_true.1 hall x0[c.toNat] (List.getElem_mem (by omega));unfold okQ at this;rw [decide_eq_true_eq] at this;rw [e, QA, getD_at x0 c.toNat (by omega)];exact this
   have C := Cut.start (x0.length : Int) (rd x0) h3;rw [Int.toNat_natCast] at C;have hnl : ((List.range x0.length).map fun i : Nat => (i : Int)).length = x0.length - 3 + 3 := (by rw [List.length_map, List.length_range]; omega);have hv : vl (rd x0) [] ((List.range x0.length).map fun i : Nat => (i : Int)) = x0 := start_vl x0 hq;rw [Bool.not_true, if_neg (by simp), ZV x0 hl, Option.bind_some];have h1 := Zy x0 x0.length (by omega) x0.length 0 (k - (x0.length + 1)) (by omega);rw [show k - (x0.length + 1) + x0.length + 1 = k by omega] at h1;obtain ⟨r, hr0, hr⟩ := po_rounds h3 hq12 (x0.length - 3) _ [] (k - (x0.length + 1)) C hnl (by omega);rw [hv] at hr;refine ⟨r, hr0, h1.trans (hr.trans ?_)⟩;unfold QG earEnd;cases ear (rd x0) (x0.length - 3) ((List.range x0.length).map fun i : Nat => (i : Int)) [] <;> rfl
 ·rw [decide_eq_false h3, if_neg (by simp), Bool.false_and];simp only [qp.j0, if_true];exact ⟨_, by simp, rfl⟩
theorem isQs_tells (x0 : List Int) (hq : ∀ c : Int, 0 ≤ c → c < (x0.length : Int) → -9223372036854775808 ≤ rd x0 c ∧ rd x0 c ≤ 9223372036854775807) (hl : x0.length ≤ 1048576) :
  Ev (fun k => xC.f k x0) (decide (3 ≤ (x0.length : Int) ∧ (x0.length : Int) ≤ 12) && QG (rd x0) x0.length) := by
 refine ⟨1100001, fun k hk => ?_⟩;obtain ⟨r, _, hr⟩ := poOf_tells x0 hq hl k (by omega);show xC.f k x0 = _;unfold xC.f;rw [hr];rfl

theorem idx_from (x : List Int) (l : List (List Int)) : ∀ j : Nat, x ∈ l → ∃ i : Nat, ∃ h : i < l.length, idxOf (fun y => decide (y = x)) l j = ((j + i : Nat) : Int) ∧ l[i] = x := by
 induction l with
 | nil => intro j h; cases h
 | cons a l ih =>
  intro j h;unfold idxOf;by_cases e : a = x
  ·rw [if_pos (decide_eq_true e)];exact ⟨0, by simp, rfl, e⟩
  ·rw [if_neg (by simpa using e)]
   obtain ⟨i, h1, h2, h3⟩ := ih (j + 1) (by
    rcases List.mem_cons.1 h with h | h
    ·exact absurd h.symm e
    ·exact h)
   exact ⟨i + 1, by rw [List.length_cons]; omega, by rw [h2]; congr 1; omega, h3⟩
theorem idx_get (l : List (List Int)) (x : List Int) (h : x ∈ l) : ∃ i : Nat, ∃ h : i < l.length, idxOf (fun y => decide (y = x)) l 0 = (i : Int) ∧ l[i] = x := by
 obtain ⟨i, h1, h2, h3⟩ := idx_from x l 0 h;exact ⟨i, h1, by rw [h2, Nat.zero_add], h3⟩
set_option maxRecDepth 1000000 in
theorem ears_good_all : ((List.range 6).all fun i => (jZ ((i + 3 : Nat) : Int)).all fun t => QG (rd (qd (i + 3) t)) (i + 3)) = true := by kernel_rfl
theorem ears_good (n : Nat) (hn : 3 ≤ n ∧ n ≤ 8) (t : List DG) (ht : t ∈ jZ (n : Int)) : QG (rd (qd n t)) n = true := by
 have h := List.all_eq_true.1 ears_good_all (n - 3) (by rw [List.mem_range]; omega);rw [show n - 3 + 3 = n by omega] at h;exact List.all_eq_true.1 h t ht
theorem qd_range (n : Nat) (t : List DG) (ht : t.length ≤ 1000) : ∀ c : Int, 0 ≤ c → c < ((qd n t).length : Int) → -9223372036854775808 ≤ rd (qd n t) c ∧ rd (qd n t) c ≤ 9223372036854775807 := by
 intro c c0 c1;rw [ZA] at c1
 have e : rd (qd n t) c = 1 + dg t c := by
  unfold rd qd;rw [List.getD_eq_getElem?_getD, List.getElem?_map, List.getElem?_range (by omega)];simp [Int.toNat_of_nonneg c0]
 have := QP t c;omega
/-- AllQuiddities, told: the list is rising, and its lists are quiddities. -/
theorem allQ_is (n : Int) (hn : 3 ≤ n ∧ n ≤ 8) : ∃ r : List (List Int), (r.length ≤ 1000 ∧ (∀ x ∈ r, x.length = n.toNat) ∧ r.Pairwise (fun x y => x < y) ∧ ∃ K, ∀ x ∈ r, ∀ k, K ≤ k → jC.f k x = some true) ∧ ∀ k, 1100000 ≤ k → zg.f k n = some r ∧ yC.f k n = some (r, true) ∧ zU.f k n = some (r, true) := by
 obtain ⟨r, ⟨h1, h2, h3, _, h5⟩, h⟩ := quids_all n hn;have hlen := QD n
 have hq : ∀ x ∈ r, Ev (fun k => jC.f k x) true := fun x hx => by
  obtain ⟨t, ht, rfl⟩ := h5 x hx;have hl := hlen t ht;have h6 := isQ_tells (qd n.toNat t) (qd_range _ t (by omega)) (by rw [ZA]; omega);rw [ZA, ears_good n.toNat (by omega) t (by rwa [show ((n.toNat : Nat) : Int) = n by omega]), decide_eq_true (show 3 ≤ ((n.toNat : Nat) : Int) ∧ ((n.toNat : Nat) : Int) ≤ 12 by omega)] at h6;exact h6
 obtain ⟨K, hK⟩ := Ev.all (g := fun x k => jC.f k x) (r := fun _ => true) r hq;refine ⟨r, ⟨h1, h2, h3, K, hK⟩, fun k hk => ⟨(h k hk).2, ?_⟩⟩;simp [yC.f, zU.f, zR.f, qw.f, vS, yF, hn, (h k hk).1, (h k hk).2]
theorem allQ_no (n : Int) (hn : ¬ (3 ≤ n ∧ n ≤ 8)) (k : Nat) : yC.f k n = some ([], false) ∧ zU.f k n = some ([], false) := by
 simp [yC.f, zU.f, zR.f, qw.f, vS, yF, hn]
theorem find_rounds (r : List (List Int)) (l : List Int) (hr : r.length ≤ 1000) (hx : ∀ x ∈ r, x.length ≤ 100) : ∀ (d j k : Nat), j + d = r.length → d + 200 < k → qN.l0 k r (r.length : Int) (j : Int) l = some (idxOf (fun y => decide (y = l)) (r.drop j) j)
 | 0, j, k, hj, hk => by
  obtain ⟨k, rfl⟩ : ∃ q, k = q + 1 := ⟨k - 1, by omega⟩;simp only [qN.l0];rw [if_neg (by omega), List.drop_of_length_le (by omega)];rfl
 | d + 1, j, k, hj, hk => by
  obtain ⟨k, rfl⟩ : ∃ q, k = q + 1 := ⟨k - 1, by omega⟩;have hlt : j < r.length := by omega
  have hm : r.getD j [] ∈ r := by
   rw [List.getD_eq_getElem?_getD, List.getElem?_eq_getElem hlt];exact List.getElem_mem _
  have hlen := hx _ hm;simp only [qN.l0, jJ.f];rw [if_pos (by omega), if_pos (by omega), if_pos (by omega), J4 r j hlt, Z0 _ _ (by omega) k (by omega), Option.bind_some, Option.bind_some, zK j (by omega), find_rounds r l hr hx d (j + 1) k (by omega) (by omega), kG _ [] r j hlt];by_cases h : r.getD j [] = l
  ·rw [if_pos (decide_eq_true h), if_pos (decide_eq_true h)]
  ·rw [if_neg (by simpa using h), if_neg (by simpa using h)]
theorem Zf (r : List (List Int)) (l : List Int) (N : Nat) (hN : N ≤ 100) (hr : r.length ≤ 1000) (hl : l.length = N) (hx : ∀ x ∈ r, x.length = N) : ∀ (d j k c : Nat), j + d = r.length → c ≤ j → d + 200 < k → qF.l0 k l (c : Int) r (r.length : Int) (j : Int) = some (((c + (r.drop j).countP (fun y => decide (y < l)) : Nat) : Int), true)
 | 0, j, k, c, hj, hc, hk => by
  obtain ⟨k, rfl⟩ : ∃ q, k = q + 1 := ⟨k - 1, by omega⟩;simp only [qF.l0];rw [if_neg (by omega), List.drop_of_length_le (by omega)];rfl
 | d + 1, j, k, c, hj, hc, hk => by
  obtain ⟨k, rfl⟩ : ∃ q, k = q + 1 := ⟨k - 1, by omega⟩;have hlt : j < r.length := by omega
  have hm : r.getD j [] ∈ r := by
   rw [List.getD_eq_getElem?_getD, List.getElem?_eq_getElem hlt];exact List.getElem_mem _
  have hlen := hx _ hm;have w : wrap64 ((c : Int) + 1) = ((c + 1 : Nat) : Int) := zK c (by omega);simp only [qF.l0];rw [if_pos (by omega), if_pos (by omega), if_pos (by omega), J4 r j hlt, JC _ _ (by omega) (by omega) k (by omega), Option.bind_some, zK j (by omega), w, getD_drop r [] j hlt, List.countP_cons];by_cases h : r.getD j [] < l
  ·rw [if_pos (decide_eq_true h), if_pos (decide_eq_true h), Zf r l N hN hr hl hx d (j + 1) k (c + 1) (by omega) (by omega) (by omega)];congr 3;omega
  ·rw [if_neg (by simpa using h), if_neg (by simpa using h), show List.countP (fun y => decide (y < l)) (r.drop (j + 1)) + 0 = List.countP (fun y => decide (y < l)) (r.drop (j + 1)) from rfl];exact Zf r l N hN hr hl hx d (j + 1) k c (by omega) (by omega) (by omega)
theorem rank_is (l : List Int) (hl : l.length ≤ 1048576) (hq : ∀ c : Int, 0 ≤ c → c < (l.length : Int) → -9223372036854775808 ≤ rd l c ∧ rd l c ≤ 9223372036854775807) : ∃ (K : Nat) (r : Int) (ok : Bool), (ok = true → (3 ≤ l.length ∧ l.length ≤ 8) ∧ 0 ≤ r ∧ ∃ R : List (List Int), R.length ≤ 1000 ∧ (∀ x ∈ R, x.length = l.length) ∧ (∀ k, 1100000 ≤ k → zg.f k (l.length : Int) = some R) ∧ r < (R.length : Int) ∧ R.getD r.toNat [] = l) ∧ ∀ k, K ≤ k → qF.f k l = some (r, ok) ∧ zt.f k l = some (r, ok) := by
 obtain ⟨K1, h1⟩ := isQ_tells l hq hl;obtain ⟨K2, h2⟩ := isQs_tells l hq hl;cases ho : (decide (3 ≤ (l.length : Int) ∧ (l.length : Int) ≤ 12) && QG (rd l) l.length)
 ·refine ⟨K1 + K2 + 1, 0, false, (fun h => by cases h), fun k hk => ?_⟩;rw [ho] at h1 h2;have a1 := h1 k (by omega);have a2 := h2 k (by omega);obtain ⟨k, rfl⟩ : ∃ q, k = q + 1 := ⟨k - 1, by omega⟩;simp only at a1 a2;constructor
  ·simp only [qF.f, zR.f, vS, Option.bind_some, a2];by_cases h8 : 3 ≤ (l.length : Int) ∧ (l.length : Int) ≤ 8
   ·rw [if_pos (decide_eq_true h8)];simp [qF.j0]
   ·rw [if_neg (by simpa using h8)];simp [qF.j0]
  ·simp only [zt.f, a1, Option.bind_some];simp [zt.j0]
 ·rw [ho] at h1 h2;rw [Bool.and_eq_true, decide_eq_true_eq] at ho;have hN : 3 ≤ l.length ∧ l.length ≤ 12 := (by omega);by_cases h8 : l.length ≤ 8
  ·have h38 : 3 ≤ (l.length : Int) ∧ (l.length : Int) ≤ 8 := (by omega);obtain ⟨r, ⟨r1, r2, r3, r4, _⟩, hr⟩ := quids_all (l.length : Int) h38;obtain ⟨s, T, hs⟩ := ok_all l ho.1 hq ho.2
   have hm : l ∈ r := by
    have h9 := r4 s (tris_full _ h38 s T)
    have e : qd (l.length : Int).toNat s = l := ext_rd _ _ (by rw [ZA, Int.toNat_natCast]) (fun i i0 i1 => by
     rw [ZA, Int.toNat_natCast] at i1;rw [hs i i0 i1];unfold rd qd;rw [List.getD_eq_getElem?_getD, List.getElem?_map, List.getElem?_range (by omega)];simp [Int.toNat_of_nonneg i0])
    rwa [e] at h9
   have hlen : ∀ x ∈ r, x.length = l.length := fun x hx => (by rw [r2 x hx, Int.toNat_natCast]);obtain ⟨ix, ix1, ix2, ix3⟩ := idx_get r l hm;rw [rank_at l r 0 r3 hm] at ix2;refine ⟨K1 + K2 + 1100001, ((r.countP fun y => decide (y < l) : Nat) : Int), true, fun _ => ⟨⟨by omega, h8⟩, by omega, r, r1, hlen, fun k hk => (hr k hk).2, by omega, ?_⟩, fun k hk => ?_⟩
   ·rw [show ((r.countP fun y => decide (y < l) : Nat) : Int).toNat = ix by omega, List.getD_eq_getElem?_getD, List.getElem?_eq_getElem ix1];exact ix3
   have a1 := h1 k (by omega);have a2 := h2 k (by omega);obtain ⟨k, rfl⟩ : ∃ q, k = q + 1 := ⟨k - 1, by omega⟩;simp only at a1 a2;obtain ⟨q1, q2⟩ := hr k (by omega);constructor
   ·simp only [qF.f, zR.f, vS, Option.bind_some, a2];rw [decide_eq_true h38, if_pos rfl, Bool.not_true];simp only [qF.j0];rw [if_neg (by simp), q1, Option.bind_some];have h := Zf r l l.length (by omega) r1 rfl hlen r.length 0 k 0 (by omega) (by omega) (by omega);rw [List.drop_zero, Nat.zero_add] at h;exact h
   ·simp only [zt.f, a1, Option.bind_some, qw.f, yF];rw [if_pos trivial, decide_eq_true h38, Bool.not_true];simp only [zt.j0];rw [if_neg (by simp), q2, Option.bind_some];have h := find_rounds r l r1 (fun x hx => by rw [hlen x hx]; omega) r.length 0 k (by omega) (by omega);rw [List.drop_zero, rank_at l r 0 r3 hm] at h
    have h' : qN.f k r l = some ((r.countP fun y => decide (y < l) : Nat) : Int) := by
     refine h.trans ?_;congr 1;omega
    rw [h'];rfl
  ·have h38 : ¬ (3 ≤ (l.length : Int) ∧ (l.length : Int) ≤ 8) := (by omega);refine ⟨K1 + K2 + 1, 0, false, (fun h => by cases h), fun k hk => ?_⟩;have a1 := h1 k (by omega);have a2 := h2 k (by omega);obtain ⟨k, rfl⟩ : ∃ q, k = q + 1 := ⟨k - 1, by omega⟩;simp only at a1 a2;constructor
   ·simp only [qF.f, zR.f, vS, Option.bind_some];rw [decide_eq_false h38, if_neg (by simp)];simp [qF.j0]
   ·simp only [zt.f, a1, Option.bind_some, qw.f, yF];rw [if_pos trivial, decide_eq_false h38];simp [zt.j0]


end Go.Proofs.YtgblginphicacaaGreat.PureFnClassesTold
