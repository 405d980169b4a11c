/- The program's MoveFraction and the reference's return the same for every four numbers of a matrix and two of a fraction: both ask the same of them, both reckon the same sums, and 'the greater of the two sizes is too great' says the same as 'one of them is'. No condition. -/
import Derived.Test.YthhdedjfmjmgdaaPFnExactMoveFractionx0
import Derived.Test.YthhdedjfmjmgdaaPFnExactMoveFractionx1
import Derived.Test.YthhdedjfmjmgdaaPFnExactMoveFractionx2
import Derived.Test.YthhdedjfmjmgdaaPFnExactMoveFractionx3
namespace Go.Proofs.Ythhdedjfmjmgdaa.PureFnExactMoveFraction
open Go.RowKit Go.Proofs.Ythhdedjfmjmgdaa.PFnExactMoveFraction Go.Proofs.YthhdedjfmjmgdaaW.PrintWords Go.Proofs.YthhdedjfmjmgdaaW.PrintLast

/-- Is it a fraction: both numbers within bounds, without a common divisor. -/
def okF (a b : Int) : Bool := decide (0 ≤ a ∧ a ≤ 1000000) && (decide (0 ≤ b ∧ b ≤ 1000000) && (Nat.gcd a.toNat b.toNat == 1))

theorem within_tells (a b c : Int) : impl_within.f a b c = some (decide (b ≤ a ∧ a ≤ c)) := by
  unfold impl_within.f
  by_cases h : a ≥ b
  · rw [if_pos h]
    have : b ≤ a := h
    simp [this]
  · rw [if_neg h]
    have : ¬ b ≤ a := h
    simp [this]

theorem l1In_tells (a b c : Int) : spec_l1In.f a b c = some (decide (b ≤ a ∧ a ≤ c)) := by
  unfold spec_l1In.f
  by_cases h : a ≥ b
  · rw [if_pos h]
    have : b ≤ a := h
    simp [this]
  · rw [if_neg h]
    have : ¬ b ≤ a := h
    simp [this]

theorem divisor_rounds (b : Nat) : ∀ (a k : Nat), b < k → impl_divisor.l0 k (a : Int) (b : Int) = some ((Nat.gcd a b : Nat) : Int) := by
  induction b using Nat.strongRecOn with
  | _ b ih =>
    intro a k hk
    obtain ⟨k, rfl⟩ : ∃ m, k = m + 1 := ⟨k - 1, by omega⟩
    simp only [impl_divisor.l0]
    by_cases h : b = 0
    · subst h
      simp
    · have hm : a % b < b := Nat.mod_lt _ (by omega)
      rw [if_neg (by omega), ← Int.ofNat_tmod, ih (a % b) hm b k (by omega), Nat.gcd_comm a b, Nat.gcd_rec b a, Nat.gcd_comm]

theorem divisor_tells (a b : Int) (ha : 0 ≤ a) (hb : 0 ≤ b) : Ev (fun k => impl_divisor.f k a b) ((Nat.gcd a.toNat b.toNat : Nat) : Int) := by
  refine ⟨b.toNat + 1, fun k hk => ?_⟩
  have h := divisor_rounds b.toNat a.toNat k (by omega)
  rw [Int.toNat_of_nonneg ha, Int.toNat_of_nonneg hb] at h
  exact h

theorem nbGood_rounds (b : Nat) : ∀ (a k : Nat), b < k → spec_nbGood.l0 k (a : Int) (b : Int) = some (Nat.gcd a b == 1) := by
  induction b using Nat.strongRecOn with
  | _ b ih =>
    intro a k hk
    obtain ⟨k, rfl⟩ : ∃ m, k = m + 1 := ⟨k - 1, by omega⟩
    simp only [spec_nbGood.l0]
    by_cases h : b = 0
    · subst h
      rw [if_neg (by omega), Nat.gcd_zero_right]
      congr 1
      rw [Bool.eq_iff_iff, beq_iff_eq, beq_iff_eq]
      omega
    · have hm : a % b < b := Nat.mod_lt _ (by omega)
      rw [if_pos (by omega), if_neg (by omega), ← Int.ofNat_tmod, ih (a % b) hm b k (by omega), Nat.gcd_comm a b, Nat.gcd_rec b a, Nat.gcd_comm]

theorem isFraction_tells (a b : Int) : Ev (fun k => impl_IsFraction.f k a b) (okF a b) := by
  by_cases h0 : 0 ≤ a ∧ a ≤ 1000000
  · by_cases h1 : 0 ≤ b ∧ b ≤ 1000000
    · obtain ⟨K, hd⟩ := divisor_tells a b h0.1 h1.1
      refine ⟨K, fun k hk => ?_⟩
      show impl_IsFraction.f k a b = _
      unfold impl_IsFraction.f
      have hd' : impl_divisor.f k a b = some ((Nat.gcd a.toNat b.toNat : Nat) : Int) := hd k hk
      rw [within_tells, within_tells, hd']
      simp only [h0, h1, and_self, decide_true, Option.bind_some, if_true, okF, Bool.true_and]
      congr 1
      rw [Bool.eq_iff_iff, beq_iff_eq, beq_iff_eq]
      omega
    · refine ⟨0, fun k _ => ?_⟩
      show impl_IsFraction.f k a b = _
      unfold impl_IsFraction.f
      rw [within_tells, within_tells]
      simp [h0, h1, okF]
  · refine ⟨0, fun k _ => ?_⟩
    show impl_IsFraction.f k a b = _
    unfold impl_IsFraction.f
    rw [within_tells]
    simp [h0, okF]

theorem nbGood_tells (a b : Int) : Ev (fun k => spec_nbGood.f k a b) (okF a b) := by
  by_cases h0 : 0 ≤ a ∧ a ≤ 1000000
  · by_cases h1 : 0 ≤ b ∧ b ≤ 1000000
    · refine ⟨b.toNat + 2, fun k hk => ?_⟩
      obtain ⟨k, rfl⟩ : ∃ m, k = m + 1 := ⟨k - 1, by omega⟩
      show spec_nbGood.f (k + 1) a b = _
      unfold spec_nbGood.f
      rw [l1In_tells, l1In_tells]
      simp only [h0, h1, and_self, decide_true, Option.bind_some, if_true, okF, Bool.true_and, Bool.not_true, spec_nbGood.j0, Bool.false_eq_true, if_false]
      have h := nbGood_rounds b.toNat a.toNat k (by omega)
      rw [Int.toNat_of_nonneg h0.1, Int.toNat_of_nonneg h1.1] at h
      exact h
    · refine ⟨1, fun k hk => ?_⟩
      obtain ⟨k, rfl⟩ : ∃ m, k = m + 1 := ⟨k - 1, by omega⟩
      show spec_nbGood.f (k + 1) a b = _
      unfold spec_nbGood.f
      rw [l1In_tells, l1In_tells]
      simp [h0, h1, okF, spec_nbGood.j0]
  · refine ⟨1, fun k hk => ?_⟩
    obtain ⟨k, rfl⟩ : ∃ m, k = m + 1 := ⟨k - 1, by omega⟩
    show spec_nbGood.f (k + 1) a b = _
    unfold spec_nbGood.f
    rw [l1In_tells]
    simp [h0, okF, spec_nbGood.j0]

theorem rd_drop (l : List Int) (i : Nat) (h : i < l.length) : l.drop i = rd l (i : Int) :: l.drop (i + 1) := by
  rw [List.drop_eq_getElem_cons h]
  congr 1
  unfold rd
  rw [Int.toNat_natCast, List.getD_eq_getElem?_getD, List.getElem?_eq_getElem h]
  rfl

theorem l1All_rounds (lo hi : Int) (l : List Int) (hl : l.length ≤ 4611686018427387904) (d : Nat) : ∀ (i k : Nat), i + d = l.length → d < k →
    spec_l1All.l0 k lo hi l (l.length : Int) (i : Int) = some ((l.drop i).all fun x => decide (lo ≤ x ∧ x ≤ hi)) := by
  induction d with
  | zero =>
    intro i k hi hk
    obtain ⟨k, rfl⟩ : ∃ m, k = m + 1 := ⟨k - 1, by omega⟩
    simp only [spec_l1All.l0]
    rw [if_neg (by omega), List.drop_of_length_le (by omega)]
    rfl
  | succ d ih =>
    intro i k hi' hk
    obtain ⟨k, rfl⟩ : ∃ m, k = m + 1 := ⟨k - 1, by omega⟩
    simp only [spec_l1All.l0]
    rw [if_pos (by omega), if_pos (by omega), if_pos (by omega), l1In_tells, Option.bind_some, rd_drop l i (by omega), List.all_cons]
    by_cases h : lo ≤ rd l (i : Int) ∧ rd l (i : Int) ≤ hi
    · have w : wrap64 ((i : Int) + 1) = ((i + 1 : Nat) : Int) := by unfold wrap64; omega
      rw [w, ih (i + 1) k (by omega) (by omega)]
      simp [h]
    · simp [h]

theorem l1All_tells (lo hi : Int) (l : List Int) (hl : l.length ≤ 4611686018427387904) : Ev (fun k => spec_l1All.f k l lo hi) (l.all fun x => decide (lo ≤ x ∧ x ≤ hi)) := by
  refine ⟨l.length + 1, fun k hk => ?_⟩
  have h := l1All_rounds lo hi l hl l.length 0 k (by omega) (by omega)
  rw [List.drop_zero] at h
  exact h

/-- Is it a matrix: all numbers within bounds, the determinant 1. -/
def okM (a b c d : Int) : Bool :=
  [a, b, c, d].all (fun x => decide (-1000000000 ≤ x ∧ x ≤ 1000000000)) && (wrap64 (wrap64 (a * d) - wrap64 (b * c)) == 1)

theorem isEntry_tells (a : Int) : impl_isEntry.f a = some (decide (-1000000000 ≤ a ∧ a ≤ 1000000000)) := by
  unfold impl_isEntry.f
  rw [within_tells]
  rfl

theorem isMatrix_tells (a b c d : Int) : impl_IsMatrix.f a b c d = some (okM a b c d) := by
  unfold impl_IsMatrix.f okM
  rw [isEntry_tells, isEntry_tells, isEntry_tells, isEntry_tells]
  simp only [Option.bind_some, List.all_cons, List.all_nil, Bool.and_true]
  cases decide (-1000000000 ≤ a ∧ a ≤ 1000000000) <;> cases decide (-1000000000 ≤ b ∧ b ≤ 1000000000) <;> cases decide (-1000000000 ≤ c ∧ c ≤ 1000000000) <;> cases decide (-1000000000 ≤ d ∧ d ≤ 1000000000) <;> rfl

theorem mxGood_tells (a b c d : Int) : Ev (fun k => spec_mxGood.f k a b c d) (okM a b c d) := by
  refine Ev.congr (f := fun k => (spec_l1All.f k [a, b, c, d] (-1000000000) 1000000000).bind fun t => if t = true then some (wrap64 (wrap64 (a * d) - wrap64 (b * c)) == 1) else some false) (fun _ => rfl) ?_
  refine Ev.bind (l1All_tells (-1000000000) 1000000000 [a, b, c, d] (by simp)) ⟨0, fun k _ => ?_⟩
  unfold okM
  cases [a, b, c, d].all (fun x => decide (-1000000000 ≤ x ∧ x ≤ 1000000000)) <;> rfl

theorem abs_tells (x : Int) : spec_l1Abs.f x = some (mx x (wrap64 (-x))) := by
  unfold spec_l1Abs.f spec_l1Most.f mx
  by_cases h : x > wrap64 (-x)
  · rw [if_pos h, if_neg (by omega)]
    rfl
  · rw [if_neg h]
    by_cases h2 : x < wrap64 (-x)
    · rw [if_pos h2]
      rfl
    · rw [if_neg h2]
      have : x = wrap64 (-x) := by omega
      rw [← this]
      rfl

theorem mx_gt (a b m : Int) : mx a b > m ↔ (a > m ∨ b > m) := by
  unfold mx
  constructor
  · intro h
    split at h <;> omega
  · intro h
    split <;> omega

theorem end_tells (s x y : Int) : (if s > 1000000000000000 then some ((0, 0, false) : Int × Int × Bool) else if y > 1000000000000000 then some (0, 0, false) else some (x, y, true)) =
    (if mx s y > 1000000000000000 then some (0, 0, false) else some (x, y, true)) := by
  by_cases h : s > 1000000000000000
  · rw [if_pos h, if_pos ((mx_gt _ _ _).2 (.inl h))]
  · by_cases h2 : y > 1000000000000000
    · rw [if_neg h, if_pos h2, if_pos ((mx_gt _ _ _).2 (.inr h2))]
    · rw [if_neg h, if_neg h2, if_neg (fun h3 => by rcases (mx_gt _ _ _).1 h3 with h4 | h4 <;> omega)]

theorem j1_same (k : Nat) (x y : Int) (b : Bool) : spec_MoveFraction.j1 k x y b = impl_MoveFraction.j1 k x y b := by
  cases k with
  | zero => simp only [spec_MoveFraction.j1, impl_MoveFraction.j1]
  | succ k =>
    simp only [spec_MoveFraction.j1, impl_MoveFraction.j1]
    cases b
    · rw [abs_tells, abs_tells]
      exact end_tells _ _ _
    · rw [abs_tells, abs_tells]
      exact end_tells _ _ _

theorem j0_same (k : Nat) (g : Bool) (a b c d e f : Int) : spec_MoveFraction.j0 k g a b c d e f = impl_MoveFraction.j0 k g a b c d e f := by
  cases k with
  | zero => simp only [spec_MoveFraction.j0, impl_MoveFraction.j0]
  | succ k => simp only [spec_MoveFraction.j0, impl_MoveFraction.j0, j1_same]

theorem j0_ends (g : Bool) (a b c d e f : Int) : ∃ r, Ev (fun k => impl_MoveFraction.j0 k g a b c d e f) r := by
  have h1 : ∀ (x y : Int) (s : Bool), ∃ r, ∀ k, impl_MoveFraction.j1 (k + 1) x y s = some r := by
    intro x y s
    simp only [impl_MoveFraction.j1, impl_size.f, Option.bind_some]
    cases s
    · simp only [Bool.false_eq_true, if_false]
      split <;> exact ⟨_, fun _ => rfl⟩
    · simp only [if_true]
      split <;> exact ⟨_, fun _ => rfl⟩
  have h2 : ∃ r, ∀ k, impl_MoveFraction.j0 (k + 2) g a b c d e f = some r := by
    simp only [impl_MoveFraction.j0]
    split
    · exact ⟨_, fun _ => rfl⟩
    · split
      · exact h1 _ _ _
      · split <;> exact h1 _ _ _
  obtain ⟨r, h⟩ := h2
  exact ⟨r, 2, fun k hk => by obtain ⟨m, rfl⟩ : ∃ m, k = m + 2 := ⟨k - 2, by omega⟩; exact h m⟩

theorem moved_ends (a b c d e f : Int) : ∃ r, Ev (fun k => spec_MoveFraction.f k a b c d e f) r ∧ Ev (fun k => impl_MoveFraction.f k a b c d e f) r := by
  cases hm : okM a b c d with
  | true =>
    obtain ⟨r, hr⟩ := j0_ends (!okF e f) a b c d e f
    have h1 := mxGood_tells a b c d
    have h2 := isMatrix_tells a b c d
    rw [hm] at h1 h2
    refine ⟨r, ?_, ?_⟩
    · refine Ev.congr (f := fun k => (spec_mxGood.f k a b c d).bind fun t => if t = true then ((spec_nbGood.f k e f).bind fun u => spec_MoveFraction.j0 k (!u) a b c d e f) else spec_MoveFraction.j0 k true a b c d e f) (fun _ => rfl) ?_
      refine Ev.bind h1 (Ev.congr (f := fun k => (spec_nbGood.f k e f).bind fun u => spec_MoveFraction.j0 k (!u) a b c d e f) (fun _ => rfl) ?_)
      exact Ev.bind (nbGood_tells e f) (Ev.congr (fun k => j0_same k _ a b c d e f) hr)
    · refine Ev.congr (f := fun k => (impl_IsFraction.f k e f).bind fun u => impl_MoveFraction.j0 k (!u) a b c d e f) (fun k => by unfold impl_MoveFraction.f; rw [h2]; rfl) ?_
      exact Ev.bind (isFraction_tells e f) hr
  | false =>
    obtain ⟨r, hr⟩ := j0_ends true a b c d e f
    have h1 := mxGood_tells a b c d
    have h2 := isMatrix_tells a b c d
    rw [hm] at h1 h2
    refine ⟨r, ?_, ?_⟩
    · refine Ev.congr (f := fun k => (spec_mxGood.f k a b c d).bind fun t => if t = true then ((spec_nbGood.f k e f).bind fun u => spec_MoveFraction.j0 k (!u) a b c d e f) else spec_MoveFraction.j0 k true a b c d e f) (fun _ => rfl) ?_
      exact Ev.bind h1 (Ev.congr (fun k => j0_same k _ a b c d e f) hr)
    · exact Ev.congr (f := fun k => impl_MoveFraction.j0 k true a b c d e f) (fun k => by unfold impl_MoveFraction.f; rw [h2]; rfl) hr

theorem FnExactMoveFraction (a b c d e f : Int) (_ : (Lit.int .i64 a).wf = true) (_ : (Lit.int .i64 b).wf = true) (_ : (Lit.int .i64 c).wf = true) (_ : (Lit.int .i64 d).wf = true) (_ : (Lit.int .i64 e).wf = true) (_ : (Lit.int .i64 f).wf = true) :
    ∃ k, laws_FnExactMoveFraction.f k a b c d e f = some true := by
  obtain ⟨r, h1, h2⟩ := moved_ends a b c d e f
  refine Ev.rounds (Ev.congr (f := fun k => (spec_MoveFraction.f k a b c d e f).bind fun s => (impl_MoveFraction.f k a b c d e f).bind fun t => if t.1 = s.1 then (if t.2.1 = s.2.1 then (if (t.2.2 != s.2.2) = true then some false else some true) else some false) else some false) (fun _ => rfl) ?_)
  refine Ev.bind h1 (Ev.bind h2 ⟨0, fun k _ => ?_⟩)
  simp

end Go.Proofs.Ythhdedjfmjmgdaa.PureFnExactMoveFraction
