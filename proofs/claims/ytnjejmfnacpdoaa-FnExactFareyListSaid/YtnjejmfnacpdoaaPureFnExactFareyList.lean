/- The program's FareyList and the reference's return the same for every number: the program sorts the fractions with no greater denominator, the reference goes from term to term; both lists are one. No condition. -/
import Derived.Test.YtnjejmfnacpdoaaPFnExactFareyListx0
import Derived.Test.YtnjejmfnacpdoaaPFnExactFareyListx1
import Derived.Test.YtnjejmfnacpdoaaPFnExactFareyListx2
import Derived.Test.YtnjejmfnacpdoaaPFnExactFareyListx3
import Derived.Test.YtnjejmfnacpdoaaPFnExactFareyListx4
set_option linter.unusedSimpArgs false
set_option linter.unnecessarySimpa false
set_option linter.unusedVariables false
namespace Go.Proofs.Ytnjejmfnacpdoaa.PureFnExactFareyList
open Go.RowKit Go.Proofs.Ytnjejmfnacpdoaa.PFnExactFareyList Go.Proofs.YtnjejmfnacpdoaaW.PrintWords Go.Proofs.YtnjejmfnacpdoaaW.PrintLast

theorem Ev.at1 {α : Type} {g : Nat → Option α} {r : α} (h : Ev g r) : ∃ K, ∀ j, g (K + j) = some r := by
 obtain ⟨K, h⟩ := h
 exact ⟨K, fun j => h _ (by omega)⟩
theorem Ev.at2 {α β : Type} {g : Nat → Option α} {r : α} {g2 : Nat → Option β} {r2 : β} (h : Ev g r) (h2 : Ev g2 r2) : ∃ K, (∀ j, g (K + j) = some r) ∧ ∀ j, g2 (K + j) = some r2 := by
 obtain ⟨K, h⟩ := h
 obtain ⟨K2, h2⟩ := h2
 exact ⟨K + K2, fun j => h _ (by omega), fun j => h2 _ (by omega)⟩
theorem Ev.at3 {α β γ : Type} {g : Nat → Option α} {r : α} {g2 : Nat → Option β} {r2 : β} {g3 : Nat → Option γ} {r3 : γ} (h : Ev g r) (h2 : Ev g2 r2) (h3 : Ev g3 r3) :
  ∃ K, (∀ j, g (K + j) = some r) ∧ (∀ j, g2 (K + j) = some r2) ∧ ∀ j, g3 (K + j) = some r3 := by
 obtain ⟨K, h⟩ := h
 obtain ⟨K2, h2⟩ := h2
 obtain ⟨K3, h3⟩ := h3
 exact ⟨K + K2 + K3, fun j => h _ (by omega), fun j => h2 _ (by omega), fun j => h3 _ (by omega)⟩
theorem Ev.at4 {α β γ δ : Type} {g : Nat → Option α} {r : α} {g2 : Nat → Option β} {r2 : β} {g3 : Nat → Option γ} {r3 : γ} {g4 : Nat → Option δ} {r4 : δ} (h : Ev g r) (h2 : Ev g2 r2) (h3 : Ev g3 r3) (h4 : Ev g4 r4) :
  ∃ K, (∀ j, g (K + j) = some r) ∧ (∀ j, g2 (K + j) = some r2) ∧ (∀ j, g3 (K + j) = some r3) ∧ ∀ j, g4 (K + j) = some r4 := by
 obtain ⟨K, e1, e2, e3⟩ := Ev.at3 h h2 h3
 obtain ⟨K4, h4⟩ := h4
 exact ⟨K + K4, fun j => by rw [Nat.add_assoc]; exact e1 _, fun j => by rw [Nat.add_assoc]; exact e2 _, fun j => by rw [Nat.add_assoc]; exact e3 _, fun j => h4 _ (by omega)⟩
theorem Ev.all {α β : Type} {g : α → Nat → Option β} {r : α → β} (l : List α) (h : ∀ x, x ∈ l → Ev (g x) (r x)) : ∃ K, ∀ x, x ∈ l → ∀ k, K ≤ k → g x k = some (r x) := by
 induction l with
 | nil => exact ⟨0, fun x hx => by cases hx⟩
 | cons y l ih =>
  obtain ⟨K, hK⟩ := ih (fun x hx => h x (List.mem_cons_of_mem _ hx))
  obtain ⟨K2, hK2⟩ := h y (List.mem_cons_self ..)
  refine ⟨K + K2, fun x hx k hk => ?_⟩
  rcases List.mem_cons.1 hx with e | e
  ·subst e
   exact hK2 k (by omega)
  ·exact hK x e k (by omega)

theorem take_set_succ {α : Type} (l : List α) (i : Nat) (v : α) (h : i < l.length) : (l.set i v).take (i + 1) = l.take i ++ [v] := by
 rw [List.take_succ_eq_append_getElem (by rw [List.length_set]; exact h), List.getElem_set_self, List.take_set_of_le (Nat.le_refl i)]
theorem getD_drop {α : Type} (l : List α) (d : α) (i : Nat) (h : i < l.length) : l.drop i = l.getD i d :: l.drop (i + 1) := by
 rw [List.drop_eq_getElem_cons h, List.getD_eq_getElem?_getD, List.getElem?_eq_getElem h]
 rfl
theorem wrap_succ (i : Nat) (h : i < 4611686018427387904) : wrap64 ((i : Int) + 1) = ((i + 1 : Nat) : Int) := by unfold wrap64; omega
theorem wrap_pred (i : Nat) (h0 : 0 < i) (h : i < 4611686018427387904) : wrap64 ((i : Int) - 1) = ((i - 1 : Nat) : Int) := by unfold wrap64; omega

theorem l1In_tells (a b c : Int) : spec_l1In.f a b c = some (decide (b ≤ a ∧ a ≤ c)) := by
 unfold spec_l1In.f
 by_cases h : a ≥ b
 ·rw [if_pos h]
  have : b ≤ a := h
  simp [this]
 ·rw [if_neg h]
  have : ¬ b ≤ a := h
  simp [this]

/-- Is it a fraction: both numbers within bounds, without a common divisor. -/
def okF (a b : Int) : Bool := decide (0 ≤ a ∧ a ≤ 1000000) && (decide (0 ≤ b ∧ b ≤ 1000000) && (Nat.gcd a.toNat b.toNat == 1))

theorem within_tells (a b c : Int) : impl_within.f a b c = some (decide (b ≤ a ∧ a ≤ c)) := by
 unfold impl_within.f
 by_cases h : a ≥ b
 ·rw [if_pos h]
  have : b ≤ a := h
  simp [this]
 ·rw [if_neg h]
  have : ¬ b ≤ a := h
  simp [this]

theorem divisor_rounds (b : Nat) : ∀ (a k : Nat), b < k → impl_divisor.l0 k (a : Int) (b : Int) = some ((Nat.gcd a b : Nat) : Int) := by
 induction b using Nat.strongRecOn with
 | _ b ih =>
  intro a k hk
  obtain ⟨k, rfl⟩ : ∃ m, k = m + 1 := ⟨k - 1, by omega⟩
  simp only [impl_divisor.l0]
  by_cases h : b = 0
  ·subst h
   simp
  ·have hm : a % b < b := Nat.mod_lt _ (by omega)
   rw [if_neg (by omega), ← Int.ofNat_tmod, ih (a % b) hm b k (by omega), Nat.gcd_comm a b, Nat.gcd_rec b a, Nat.gcd_comm]

theorem divisor_tells (a b : Int) (ha : 0 ≤ a) (hb : 0 ≤ b) : Ev (fun k => impl_divisor.f k a b) ((Nat.gcd a.toNat b.toNat : Nat) : Int) := by
 refine ⟨b.toNat + 1, fun k hk => ?_⟩
 have h := divisor_rounds b.toNat a.toNat k (by omega)
 rw [Int.toNat_of_nonneg ha, Int.toNat_of_nonneg hb] at h
 exact h

theorem isFraction_tells (a b : Int) : Ev (fun k => impl_IsFraction.f k a b) (okF a b) := by
 by_cases h0 : 0 ≤ a ∧ a ≤ 1000000
 ·by_cases h1 : 0 ≤ b ∧ b ≤ 1000000
  ·obtain ⟨K, hd⟩ := divisor_tells a b h0.1 h1.1
   refine ⟨K, fun k hk => ?_⟩
   show impl_IsFraction.f k a b = _
   unfold impl_IsFraction.f
   have hd' : impl_divisor.f k a b = some ((Nat.gcd a.toNat b.toNat : Nat) : Int) := hd k hk
   rw [within_tells, within_tells, hd']
   simp only [h0, h1, and_self, decide_true, Option.bind_some, if_true, okF, Bool.true_and]
   congr 1
   rw [Bool.eq_iff_iff, beq_iff_eq, beq_iff_eq]
   omega
  ·refine ⟨0, fun k _ => ?_⟩
   show impl_IsFraction.f k a b = _
   unfold impl_IsFraction.f
   rw [within_tells, within_tells]
   simp [h0, h1, okF]
 ·refine ⟨0, fun k _ => ?_⟩
  show impl_IsFraction.f k a b = _
  unfold impl_IsFraction.f
  rw [within_tells]
  simp [h0, okF]


-- needs: okF (impl_IsFraction, impl_within, impl_divisor), given SortFuncFarey; impl_farey, spec_nbFarey
/-! ### The program's list, unsorted -/
theorem isFrac_at (a b : Int) (k : Nat) (hb : 0 ≤ b ∧ b < k) : impl_IsFraction.f k a b = some (okF a b) := by
 unfold impl_IsFraction.f
 rw [within_tells, within_tells]
 by_cases h0 : 0 ≤ a ∧ a ≤ 1000000
 ·by_cases h1 : 0 ≤ b ∧ b ≤ 1000000
  ·have hd := divisor_rounds b.toNat a.toNat k (by omega)
   rw [Int.toNat_of_nonneg h0.1, Int.toNat_of_nonneg h1.1] at hd
   have hd' : impl_divisor.f k a b = some ((Nat.gcd a.toNat b.toNat : Nat) : Int) := hd
   rw [hd']
   simp only [h0, h1, and_self, decide_true, Option.bind_some, if_true, okF, Bool.true_and]
   congr 1
   rw [Bool.eq_iff_iff, beq_iff_eq, beq_iff_eq]
   omega
  ·simp [h0, h1, okF]
 ·simp [h0, okF]
def col (d : Nat) : Nat → Nat → List S32
 | _, 0 => []
 | i, m + 1 => if okF (i : Int) (d : Int) = true then ⟨i, d⟩ :: col d (i + 1) m else col d (i + 1) m
def cols : Nat → Nat → List S32
 | _, 0 => []
 | d, m + 1 => col d 0 (d + 1) ++ cols (d + 1) m
theorem col_len (d : Nat) : ∀ m i, (col d i m).length ≤ m
 | 0, _ => by simp [col]
 | m + 1, i => by
  have h := col_len d m (i + 1)
  unfold col
  by_cases c : okF (i : Int) (d : Int) = true
  ·rw [if_pos c, List.length_cons]; omega
  ·rw [if_neg c]; omega
theorem mem_col (d : Nat) : ∀ m i a : Nat, i ≤ a → a < i + m → okF (a : Int) (d : Int) = true → (⟨a, d⟩ : S32) ∈ col d i m
 | 0, _, _, h1, h2, _ => by omega
 | m + 1, i, a, h1, h2, h => by
  unfold col
  by_cases e : a = i
  ·subst e
   rw [if_pos h]
   exact List.mem_cons_self
  ·have hm := mem_col d m (i + 1) a (by omega) (by omega) h
   by_cases c : okF (i : Int) (d : Int) = true
   ·rw [if_pos c]; exact List.mem_cons_of_mem _ hm
   ·rw [if_neg c]; exact hm
theorem mem_cols : ∀ m d a b : Nat, d ≤ b → b < d + m → a ≤ b → okF (a : Int) (b : Int) = true → (⟨a, b⟩ : S32) ∈ cols d m
 | 0, _, _, _, h1, h2, _, _ => by omega
 | m + 1, d, a, b, h1, h2, h3, h => by
  unfold cols
  rw [List.mem_append]
  by_cases e : b = d
  ·subst e
   exact Or.inl (mem_col b (b + 1) 0 a (by omega) (by omega) h)
  ·exact Or.inr (mem_cols m (d + 1) a b (by omega) (by omega) h3 h)
theorem farey_row (n : Int) (d : Nat) (hd : d ≤ 40) : ∀ (m k i : Nat) (out : List S32), i + m = d + 1 → out.length + m ≤ 100000 → m + 60 < k → ∃ k', k' + m + 1 = k ∧ impl_farey.l1 k n out d (d + 1 : Nat) i = impl_farey.l0 k' n (out ++ col d i m) ((d : Int) + 1)
 | 0, k, i, out, hi, _, hk => by
  refine ⟨k - 1, by omega, ?_⟩
  obtain ⟨k, rfl⟩ : ∃ q, k = q + 1 := ⟨k - 1, by omega⟩
  rw [impl_farey.l1, if_neg (by omega), wr64 _ (by omega)]
  simp [col]
 | m + 1, k, i, out, hi, ho, hk => by
  obtain ⟨k, rfl⟩ : ∃ q, k = q + 1 := ⟨k - 1, by omega⟩
  rw [impl_farey.l1, if_pos (by omega), isFrac_at _ _ _ (by omega), wr64 _ (by omega)]
  unfold col
  by_cases c : okF (i : Int) (d : Int) = true
  ·obtain ⟨k', h1, h2⟩ := farey_row n d hd m k (i + 1) (out ++ [⟨i, d⟩]) (by omega) (by simp; omega) (by omega)
   refine ⟨k', by omega, ?_⟩
   rw [c, Option.bind_some, if_pos rfl, if_pos (by omega)]
   rw [List.append_assoc] at h2
   rw [if_pos rfl]
   exact h2
  ·obtain ⟨k', h1, h2⟩ := farey_row n d hd m k (i + 1) out (by omega) (by omega) (by omega)
   refine ⟨k', by omega, ?_⟩
   rw [Bool.not_eq_true] at c
   rw [c, Option.bind_some, if_neg (by simp), if_neg (by simp)]
   exact h2
theorem farey_rounds (n : Nat) (hn : n ≤ 40) : ∀ (m k d : Nat) (out : List S32), d + m = n + 1 → 1 ≤ d → out.length + 50 * m ≤ 50000 → 60 * m + 200 ≤ k → impl_farey.l0 k n out d = (impl_Fraction.f (out ++ cols d m)).bind fun t => some t
 | 0, k, d, out, hd, _, _, hk => by
  obtain ⟨k, rfl⟩ : ∃ q, k = q + 1 := ⟨k - 1, by omega⟩
  rw [impl_farey.l0, if_neg (by omega)]
  simp [cols]
 | m + 1, k, d, out, hd, h1, ho, hk => by
  obtain ⟨k, rfl⟩ : ∃ q, k = q + 1 := ⟨k - 1, by omega⟩
  obtain ⟨k', h2, h3⟩ := farey_row n d (by omega) (d + 1) k 0 out (by omega) (by omega) (by omega)
  have hl := col_len d (d + 1) 0
  have ih := farey_rounds n hn m k' (d + 1) (out ++ col d 0 (d + 1)) (by omega) (by omega) (by rw [List.length_append]; omega) (by omega)
  rw [impl_farey.l0, if_pos (by omega), wr64 _ (by omega)]
  unfold cols
  rw [← List.append_assoc, ← ih]
  exact h3
/-! ### The reference's list -/
def nxt (x0 : Int) (a b : S32) : S32 := ⟨wrap64 ((wrap64 ((wrap64 (Int.tdiv (wrap64 (x0 + a.f1)) b.f1)) * b.f0)) - a.f0), wrap64 ((wrap64 ((wrap64 (Int.tdiv (wrap64 (x0 + a.f1)) b.f1)) * b.f1)) - a.f1)⟩
def run (n : Int) : Nat → S32 → S32 → Option (List S32)
 | 0, _, _ => none
 | m + 1, a, b => if b.f1 > 1 then (run n m b (nxt n a b)).map (nxt n a b :: ·) else some []
theorem run_tells (n : Int) : ∀ (m k : Nat) (pre : List S32) (a b : S32) (r : List S32), run n m a b = some r → pre.length + m ≤ 100000 → m ≤ k → spec_nbFarey.l0 k n (pre ++ [a, b]) = some (pre ++ [a, b] ++ r)
 | 0, _, _, _, _, _, h, _, _ => by cases h
 | m + 1, k, pre, a, b, r, h, hp, hk => by
  obtain ⟨k, rfl⟩ : ∃ q, k = q + 1 := ⟨k - 1, by omega⟩
  have hl : (pre ++ [a, b]).length = pre.length + 2 := by simp
  have w1 : wrap64 (((pre ++ [a, b]).length : Int) - 1) = ((pre.length + 1 : Nat) : Int) := by rw [hl, wr64 _ (by omega)]; omega
  have w2 : wrap64 (((pre ++ [a, b]).length : Int) - 2) = ((pre.length : Nat) : Int) := by rw [hl, wr64 _ (by omega)]; omega
  have g1 : rd_T32 (pre ++ [a, b]) ((pre.length + 1 : Nat) : Int) = b := by
   unfold rd_T32
   rw [Int.toNat_natCast, List.getD_eq_getElem?_getD, List.getElem?_append_right (by omega)]
   simp
  have g2 : rd_T32 (pre ++ [a, b]) ((pre.length : Nat) : Int) = a := by
   unfold rd_T32
   rw [Int.toNat_natCast, List.getD_eq_getElem?_getD, List.getElem?_append_right (by omega)]
   simp
  rw [spec_nbFarey.l0, w1, w2, g1, g2, if_pos (by omega), if_pos (by omega)]
  unfold run at h
  by_cases c : b.f1 > 1
  ·rw [if_pos c] at h
   obtain ⟨r', hr, rfl⟩ := Option.map_eq_some_iff.1 h
   rw [if_pos c, if_pos (by omega), if_pos (by omega), if_neg (by omega), if_pos (by omega)]
   have ih := run_tells n m k (pre ++ [a]) b (nxt n a b) r' hr (by simp; omega) (by omega)
   simp only [List.append_assoc, List.cons_append, List.nil_append] at ih ⊢
   exact ih
  ·rw [if_neg c] at h
   obtain rfl := Option.some.inj h
   rw [if_neg c, List.append_nil]
/-! ### They are one -/
def adj : List S32 → Bool
 | a :: b :: l => decide (a.f0 * b.f1 < b.f0 * a.f1) && adj (b :: l)
 | _ => true
def fareyOf (n : Nat) : Option (List S32) := (run n 600 ⟨0, 1⟩ ⟨1, n⟩).map fun l => ⟨0, 1⟩ :: ⟨1, n⟩ :: l
def fareyGood (n : Nat) : Bool := match fareyOf n with
 | none => false
 | some l => (l.all fun x => frOk x && (decide (x.f0 ≤ x.f1) && decide (x.f1 ≤ n))) && ((adj l && decide (l.length ≤ 602)) && ((cols 1 n).length == l.length && (cols 1 n).all frOk))
set_option maxRecDepth 1000000 in
theorem farey_good_all : ((List.range 40).all fun i => fareyGood (i + 1)) = true := by kernel_rfl
theorem farey_good (n : Nat) (hn : 1 ≤ n ∧ n ≤ 40) : fareyGood n = true := by
 have h := List.all_eq_true.1 farey_good_all (n - 1) (by rw [List.mem_range]; omega)
 rwa [show n - 1 + 1 = n by omega] at h
theorem perm_of_sub {α : Type} [DecidableEq α] : ∀ (l m : List α), l.Nodup → (∀ x ∈ l, x ∈ m) → m.length ≤ l.length → l.Perm m
 | [], m, _, _, h => by
  have : m = [] := List.eq_nil_of_length_eq_zero (by simpa using h)
  subst this
  exact List.Perm.refl _
 | x :: l, m, hn, hs, h => by
  rw [List.nodup_cons] at hn
  have hx := hs x List.mem_cons_self
  have hp := List.perm_cons_erase hx
  refine List.Perm.trans ?_ hp.symm
  refine List.Perm.cons x (perm_of_sub l (m.erase x) hn.2 (fun y hy => ?_) ?_)
  ·have hne : y ≠ x := fun e => hn.1 (e ▸ hy)
   rw [List.mem_erase_of_ne hne]
   exact hs y (List.mem_cons_of_mem _ hy)
  ·rw [List.length_erase_of_mem hx]
   simp only [List.length_cons] at h
   omega
theorem adj_lt : ∀ (l : List FrT) (a : FrT), adj ((a :: l).map Subtype.val) = true → (a :: l).Pairwise fun x y => ltOf frCmp x y = true
 | [], a, _ => by simp
 | b :: l, a, h => by
  simp only [List.map_cons, adj, Bool.and_eq_true] at h
  have ih := adj_lt l b (by simpa using h.2)
  have hab : ltOf frCmp a b = true := by rw [frLt]; exact h.1
  refine List.Pairwise.cons (fun y hy => ?_) ih
  rcases List.mem_cons.1 hy with rfl | hy
  ·exact hab
  ·exact frSWO.trans _ _ _ hab ((List.pairwise_cons.1 ih).1 y hy)
theorem asym (x y : FrT) (h : ltOf frCmp x y = true) : ltOf frCmp y x = false := by
 rw [frLt] at *
 have h := of_decide_eq_true h
 exact decide_eq_false (by omega)
theorem farey_sorted (n : Nat) (hn : 1 ≤ n ∧ n ≤ 40) : ∃ l, fareyOf n = some l ∧ impl_Fraction.f (cols 1 n) = some l ∧ (∀ x ∈ l, frOk x = true ∧ x.f0 ≤ x.f1 ∧ x.f1 ≤ n) ∧ l.Nodup ∧ l.length ≤ 602 ∧ 2 ≤ l.length := by
 have hg := farey_good n hn
 unfold fareyGood at hg
 obtain ⟨l, hl⟩ : ∃ l, fareyOf n = some l := by
  cases h : fareyOf n with
  | none => rw [h] at hg; cases hg
  | some l => exact ⟨l, rfl⟩
 rw [hl] at hg
 simp only [Bool.and_eq_true] at hg
 obtain ⟨g1, ⟨g2, g5⟩, g3, g4⟩ := hg
 have g5 := of_decide_eq_true g5
 have g3 := beq_iff_eq.1 g3
 have g1' := List.all_eq_true.1 g1
 have g4' := List.all_eq_true.1 g4
 have hm : ∀ x ∈ l, frOk x = true ∧ x.f0 ≤ x.f1 ∧ x.f1 ≤ n := fun x hx => by
  have := g1' x hx
  simp only [Bool.and_eq_true, decide_eq_true_eq] at this
  exact this
 have h2 : 2 ≤ l.length := by
  unfold fareyOf at hl
  obtain ⟨q, _, rfl⟩ := Option.map_eq_some_iff.1 hl
  simp
 obtain ⟨zs, rfl⟩ : ∃ zs : List FrT, zs.map Subtype.val = l := ⟨l.attachWith (fun x => frOk x = true) (fun x hx => (hm x hx).1), by simp⟩
 obtain ⟨ys, hys⟩ : ∃ ys : List FrT, ys.map Subtype.val = cols 1 n := ⟨(cols 1 n).attachWith (fun x => frOk x = true) g4', by simp⟩
 have hzs : zs.Pairwise fun x y => ltOf frCmp x y = true := by
  cases zs with
  | nil => simp
  | cons a zs => exact adj_lt zs a g2
 have hnd : zs.Nodup := hzs.imp (fun {x y} h e => by subst e; rw [frSWO.irrefl] at h; cases h)
 have hlen : ys.length = zs.length := by
  have h := congrArg List.length hys
  rw [List.length_map] at h
  rw [List.length_map] at g3
  omega
 have hsub : ∀ x ∈ zs, x ∈ ys := fun x hx => by
  have h := hm x.1 (List.mem_map_of_mem hx)
  have ho := frOk_is h.1
  have hc : x.1 ∈ cols 1 n := by
   obtain ⟨⟨a, b⟩, p⟩ := x
   simp only at h ho ⊢
   obtain ⟨A, rfl⟩ : ∃ A : Nat, a = A := ⟨a.toNat, by omega⟩
   obtain ⟨B, rfl⟩ : ∃ B : Nat, b = B := ⟨b.toNat, by omega⟩
   refine mem_cols n 1 A B (by omega) (by omega) (by omega) ?_
   unfold okF
   rw [ho.2.2]
   simp only [Bool.and_eq_true, decide_eq_true_eq, beq_self_eq_true, and_true]
   omega
  rw [← hys] at hc
  obtain ⟨y, hy, he⟩ := List.mem_map.1 hc
  exact Subtype.ext he ▸ hy
 have hp : zs.Perm ys := @perm_of_sub FrT (fun _ _ => Classical.propDecidable _) zs ys hnd hsub (by omega)
 have hu := Go.Sort.sorted_unique_holds frSWO frTot ys.toArray zs.toArray ⟨by simp [hlen], fun i hi => by
   have h1 : ys.toArray.size ≤ i := by omega
   rw [getElem!_neg, getElem!_neg] <;> simp at h1 ⊢ <;> omega, by simpa [← hlen, Array.extract_eq_self_of_le] using hp⟩ (fun i j _ hij hj => by
   have hj' : j < zs.length := by simpa [hlen] using hj
   rw [getElem!_pos _ j (by simpa using hj'), getElem!_pos _ i (by simp; omega)]
   simp only [List.getElem_toArray]
   exact asym _ _ (List.pairwise_iff_getElem.1 hzs i j (by omega) hj' hij))
 refine ⟨zs.map Subtype.val, hl, ?_, hm, ?_, ?_, h2⟩
 ·unfold impl_Fraction.f
  rw [if_pos ⟨g4, by
   have h := congrArg List.length hys
   rw [List.length_map] at h h2
   rw [List.isEmpty_eq_false_iff]
   intro e
   rw [e, List.length_nil] at h
   omega, by
   have h := congrArg List.length hys
   rw [List.length_map] at h g5
   omega⟩]
  congr 1
  rw [← hys, ← List.map_mergeSort (r := fun x y : FrT => !(ltOf frCmp) y x) (s := frLe) (f := Subtype.val) (l := ys) (fun a _ b _ => by
   rw [frLt]
   unfold frLe
   rw [Bool.eq_iff_iff]
   simp [Int.not_lt])]
  have hu' : zs = ys.mergeSort fun x y => !(ltOf frCmp) y x := by simpa using hu
  rw [← hu']
 ·exact List.Pairwise.map _ (fun a b h e => h (Subtype.ext e)) hnd
 ·exact g5
/-- What both lists are. -/
theorem farey_both (n : Int) (hn : 1 ≤ n ∧ n ≤ 40) : ∃ l : List S32, (l.Nodup ∧ (∀ x ∈ l, frOk x = true ∧ x.f0 ≤ x.f1 ∧ x.f1 ≤ n) ∧ l.length ≤ 602 ∧ 2 ≤ l.length) ∧ ∀ k, 3000 ≤ k → spec_nbFarey.f k n = some l ∧ impl_farey.f k n = some l := by
 obtain ⟨N, rfl⟩ : ∃ N : Nat, n = N := ⟨n.toNat, by omega⟩
 obtain ⟨l, h1, h2, h3, h4, h5, h6⟩ := farey_sorted N (by omega)
 refine ⟨l, ⟨h4, h3, h5, h6⟩, fun k hk => ⟨?_, ?_⟩⟩
 ·unfold fareyOf at h1
  obtain ⟨r, hr, rfl⟩ := Option.map_eq_some_iff.1 h1
  exact run_tells (N : Int) 600 k [] ⟨0, 1⟩ ⟨1, N⟩ r hr (by simp) (by omega)
 ·have h := farey_rounds N (by omega) N k 1 [] (by omega) (by omega) (by simp; omega) (by omega)
  rw [List.nil_append, h2] at h
  exact h

def iota32 : Int → Nat → List S32
 | _, 0 => []
 | v, m + 1 => ⟨v, v + 1⟩ :: iota32 (v + 2) m
theorem iota32_len : ∀ (m : Nat) (v : Int), (iota32 v m).length = m
 | 0, _ => rfl
 | m + 1, v => by rw [iota32, List.length_cons, iota32_len m]
theorem mark32_rounds (l : List S32) (hl : l.length ≤ 1048576) (e : Nat) : ∀ (i k : Nat) (P R : List S32) (v0 v : Int), P.length = i → R.length = e → i + e = l.length → 0 ≤ v0 → v0 ≤ 100000000 → v = v0 + 2 * (i : Int) → e < k →
  laws_markFractionS.l0 k (P ++ R) v (i : Int) = some (v0 + 2 * (l.length : Int), P ++ iota32 v e) := by
 induction e with
 | zero =>
  intro i k P R v0 v hP hR hi h00 h01 hv hk
  obtain ⟨k, rfl⟩ : ∃ q, k = q + 1 := ⟨k - 1, by omega⟩
  have : R = [] := List.length_eq_zero_iff.1 hR
  subst this
  simp only [laws_markFractionS.l0, List.append_nil, iota32]
  rw [if_neg (by omega), hv, show i = l.length by omega]
 | succ e ih =>
  intro i k P R v0 v hP hR hi h00 h01 hv hk
  obtain ⟨k, rfl⟩ : ∃ q, k = q + 1 := ⟨k - 1, by omega⟩
  cases R with
  | nil => simp at hR
  | cons x R =>
   rw [List.length_cons] at hR
   have w1 : wrap64 (v + 1) = v + 1 := by unfold wrap64; omega
   have w2 : wrap64 (v + 1 + 1) = v + 2 := by unfold wrap64; omega
   have s1 : ∀ y z : S32, (P ++ y :: R).set i z = P ++ z :: R := by
    intro y z
    rw [List.set_append_right _ _ (by omega), hP, Nat.sub_self]
    rfl
   have r1 : ∀ y : S32, rd_T32 (P ++ y :: R) (i : Int) = y := by
    intro y
    unfold rd_T32
    rw [Int.toNat_natCast, List.getD_eq_getElem?_getD, ← hP]
    simp
   simp only [laws_markFractionS.l0, Int.toNat_natCast, Option.bind_some, s1, r1, w1, w2]
   rw [if_pos (by rw [List.length_append, List.length_cons]; omega), if_pos (by omega), wrap_succ i (by omega)]
   have h := ih (i + 1) k (P ++ [⟨v, v + 1⟩]) R v0 (v + 2) (by rw [List.length_append, List.length_singleton]; omega) (by omega) (by omega) h00 h01 (by omega) (by omega)
   rw [iota32]
   simpa using h
theorem mark32_any (l : List S32) (hl : l.length ≤ 1048576) (v : Int) (h0 : 0 ≤ v) (h1 : v ≤ 100000000) (k : Nat) (hk : l.length < k) : laws_markFractionS.f k l v = some (v + 2 * (l.length : Int), iota32 v l.length) := by
 have h := mark32_rounds l hl l.length 0 k [] l v v rfl rfl (by omega) h0 h1 (by omega) hk
 unfold laws_markFractionS.f
 simpa using h
theorem mark32_tells (l : List S32) (hl : l.length ≤ 1048576) (k : Nat) (hk : l.length < k) : laws_markFractionS.f k l 1 = some (1 + 2 * (l.length : Int), iota32 1 l.length) :=
 mark32_any l hl 1 (by omega) (by omega) k hk

theorem eqO32_rounds (l : List S32) (hl : l.length ≤ 4611686018427387904) (d : Nat) : ∀ (i k : Nat), i + d = l.length → d < k → laws_eqFractionS.l0 k l l (i : Int) = some true := by
 induction d with
 | zero =>
  intro i k hi hk
  obtain ⟨k, rfl⟩ : ∃ m, k = m + 1 := ⟨k - 1, by omega⟩
  simp only [laws_eqFractionS.l0]
  rw [if_neg (by omega)]
 | succ d ih =>
  intro i k hi hk
  obtain ⟨k, rfl⟩ : ∃ m, k = m + 1 := ⟨k - 1, by omega⟩
  simp only [laws_eqFractionS.l0, laws_eqFraction.f, if_true, Option.bind_some]
  rw [if_pos (by omega), if_pos (by omega), if_pos (by omega), wrap_succ i (by omega)]
  exact ih (i + 1) k (by omega) (by omega)
theorem eqO32_tells (l : List S32) (hl : l.length ≤ 1048576) (k : Nat) (hk : l.length < k) : laws_eqFractionS.f k l l = some true := by
 unfold laws_eqFractionS.f
 rw [if_pos rfl]
 exact eqO32_rounds l (by omega) l.length 0 k (by omega) (by omega)

theorem held32_rounds (L : Nat) (hl : L ≤ 1048576) (e : Nat) : ∀ (i k : Nat) (P : List S32) (v : Int), P.length = i → i + e = L → v = 1 + 2 * (i : Int) → e < k →
  laws_heldFractionS.l0 k (P ++ iota32 v e) v (i : Int) = some (1 + 2 * (L : Int)) := by
 induction e with
 | zero =>
  intro i k P v hP hi hv hk
  obtain ⟨k, rfl⟩ : ∃ q, k = q + 1 := ⟨k - 1, by omega⟩
  simp only [laws_heldFractionS.l0, iota32, List.append_nil]
  rw [if_neg (by omega), hv, show i = L by omega]
 | succ e ih =>
  intro i k P v hP hi hv hk
  obtain ⟨k, rfl⟩ : ∃ q, k = q + 1 := ⟨k - 1, by omega⟩
  have w1 : wrap64 (v + 1) = v + 1 := by unfold wrap64; omega
  have w2 : wrap64 (v + 1 + 1) = v + 2 := by unfold wrap64; omega
  have r1 : rd_T32 (P ++ iota32 v (e + 1)) (i : Int) = ⟨v, v + 1⟩ := by
   unfold rd_T32
   rw [Int.toNat_natCast, List.getD_eq_getElem?_getD, ← hP, iota32]
   simp
  simp only [laws_heldFractionS.l0, r1, w1, w2, if_true]
  rw [if_pos (by rw [List.length_append, iota32_len]; omega), if_pos (by omega), wrap_succ i (by omega)]
  have h := ih (i + 1) k (P ++ [⟨v, v + 1⟩]) (v + 2) (by rw [List.length_append, List.length_singleton]; omega) (by omega) (by omega) (by omega)
  rw [iota32]
  simpa using h
theorem held32_tells (L : Nat) (hl : L ≤ 1048576) (k : Nat) (hk : L < k) : laws_heldFractionS.f k (iota32 1 L) 1 = some (1 + 2 * (L : Int)) := by
 have h := held32_rounds L hl L 0 k [] 1 rfl (by omega) (by omega) hk
 unfold laws_heldFractionS.f
 simpa using h

/-- What both return. -/
theorem both (n : Int) : ∃ (K : Nat) (r : List S32) (ok : Bool), r.length ≤ 1048576 ∧ ∀ k, K ≤ k → spec_FareyList.f k n = some (r, ok) ∧ impl_FareyList.f k n = some (r, ok) := by
 by_cases hn : 1 ≤ n ∧ n ≤ 40
 ·obtain ⟨l, hl, h⟩ := farey_both n hn
  refine ⟨3000, l, true, by omega, fun k hk => ?_⟩
  simp [spec_FareyList.f, impl_FareyList.f, impl_isDen.f, l1In_tells, within_tells, hn, (h k hk).1, (h k hk).2]
 ·refine ⟨0, [], false, by simp, fun k hk => ?_⟩
  simp [spec_FareyList.f, impl_FareyList.f, impl_isDen.f, l1In_tells, within_tells, hn]

theorem FnExactFareyList (n : Int) (_ : (Lit.int .i64 n).wf = true) :
  ∃ k, laws_FnExactFareyList.f k n = some true := by
 obtain ⟨K1, r, ok, hrl, hb⟩ := both n
 obtain ⟨M, hM⟩ : ∃ M, M = K1 + (r.length + 10000) := ⟨_, rfl⟩
 have b1 : ∀ j, spec_FareyList.f (M + j) n = some (r, ok) := fun j => (hb (M + j) (by omega)).1
 have b2 : ∀ j, impl_FareyList.f (M + j) n = some (r, ok) := fun j => (hb (M + j) (by omega)).2
 have er : ∀ j, laws_eqFractionS.f (M + j) r r = some true := fun j => eqO32_tells r (by omega) (M + j) (by omega)
 have mr : ∀ j, laws_markFractionS.f (M + j) r 1 = _ := fun j => mark32_tells r hrl (M + j) (by omega)
 have hd : ∀ j, laws_heldFractionS.f (M + j) (iota32 1 r.length) 1 = _ := fun j => held32_tells r.length hrl (M + j) (by omega)
 have j1 : laws_FnExactFareyList.j1 (M + 2) (iota32 1 r.length) (1 + 2 * (r.length : Int)) false = some true := by
  simp only [laws_FnExactFareyList.j1, hd, Option.bind_some, Bool.false_eq_true, if_false, if_true]
  rw [if_neg (by omega)]
 have j0 : laws_FnExactFareyList.j0 (M + 3) n r ok r false = some true := by
  simp only [laws_FnExactFareyList.j0, mr, hd, b2, er, Option.bind_some, Bool.false_eq_true, if_false, if_true]
  rw [if_neg (by omega), bne_self_eq_false]
  exact j1
 refine ⟨M + 3, ?_⟩
 simp only [laws_FnExactFareyList.f, b1, b2, er, Option.bind_some, if_true]
 rw [bne_self_eq_false]
 exact j0

end Go.Proofs.Ytnjejmfnacpdoaa.PureFnExactFareyList
