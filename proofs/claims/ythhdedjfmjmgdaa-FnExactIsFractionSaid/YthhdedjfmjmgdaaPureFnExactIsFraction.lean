/- The program's IsFraction and the reference's answer the same for every pair of numbers: both numbers from 0 to 1000000, without a common divisor (Euclid's rounds on both sides). No condition. -/
import Derived.Test.YthhdedjfmjmgdaaPFnExactIsFractionx0
import Derived.Test.YthhdedjfmjmgdaaPFnExactIsFractionx1
namespace Go.Proofs.Ythhdedjfmjmgdaa.PureFnExactIsFraction
open Go.RowKit Go.Proofs.Ythhdedjfmjmgdaa.PFnExactIsFraction Go.Proofs.YthhdedjfmjmgdaaW.PrintWords Go.Proofs.YthhdedjfmjmgdaaW.PrintLast

/-- Is it a fraction: both numbers within bounds, without a common divisor. -/
def okF (a b : Int) : Bool := decide (0 ≤ a ∧ a ≤ 1000000) && (decide (0 ≤ b ∧ b ≤ 1000000) && (Nat.gcd a.toNat b.toNat == 1))

theorem within_tells (a b c : Int) : impl_within.f a b c = some (decide (b ≤ a ∧ a ≤ c)) := by
  unfold impl_within.f
  by_cases h : a ≥ b
  · rw [if_pos h]
    have : b ≤ a := h
    simp [this]
  · rw [if_neg h]
    have : ¬ b ≤ a := h
    simp [this]

theorem l1In_tells (a b c : Int) : spec_l1In.f a b c = some (decide (b ≤ a ∧ a ≤ c)) := by
  unfold spec_l1In.f
  by_cases h : a ≥ b
  · rw [if_pos h]
    have : b ≤ a := h
    simp [this]
  · rw [if_neg h]
    have : ¬ b ≤ a := h
    simp [this]

theorem divisor_rounds (b : Nat) : ∀ (a k : Nat), b < k → impl_divisor.l0 k (a : Int) (b : Int) = some ((Nat.gcd a b : Nat) : Int) := by
  induction b using Nat.strongRecOn with
  | _ b ih =>
    intro a k hk
    obtain ⟨k, rfl⟩ : ∃ m, k = m + 1 := ⟨k - 1, by omega⟩
    simp only [impl_divisor.l0]
    by_cases h : b = 0
    · subst h
      simp
    · have hm : a % b < b := Nat.mod_lt _ (by omega)
      rw [if_neg (by omega), ← Int.ofNat_tmod, ih (a % b) hm b k (by omega), Nat.gcd_comm a b, Nat.gcd_rec b a, Nat.gcd_comm]

theorem divisor_tells (a b : Int) (ha : 0 ≤ a) (hb : 0 ≤ b) : Ev (fun k => impl_divisor.f k a b) ((Nat.gcd a.toNat b.toNat : Nat) : Int) := by
  refine ⟨b.toNat + 1, fun k hk => ?_⟩
  have h := divisor_rounds b.toNat a.toNat k (by omega)
  rw [Int.toNat_of_nonneg ha, Int.toNat_of_nonneg hb] at h
  exact h

theorem nbGood_rounds (b : Nat) : ∀ (a k : Nat), b < k → spec_nbGood.l0 k (a : Int) (b : Int) = some (Nat.gcd a b == 1) := by
  induction b using Nat.strongRecOn with
  | _ b ih =>
    intro a k hk
    obtain ⟨k, rfl⟩ : ∃ m, k = m + 1 := ⟨k - 1, by omega⟩
    simp only [spec_nbGood.l0]
    by_cases h : b = 0
    · subst h
      rw [if_neg (by omega), Nat.gcd_zero_right]
      congr 1
      rw [Bool.eq_iff_iff, beq_iff_eq, beq_iff_eq]
      omega
    · have hm : a % b < b := Nat.mod_lt _ (by omega)
      rw [if_pos (by omega), if_neg (by omega), ← Int.ofNat_tmod, ih (a % b) hm b k (by omega), Nat.gcd_comm a b, Nat.gcd_rec b a, Nat.gcd_comm]

theorem isFraction_tells (a b : Int) : Ev (fun k => impl_IsFraction.f k a b) (okF a b) := by
  by_cases h0 : 0 ≤ a ∧ a ≤ 1000000
  · by_cases h1 : 0 ≤ b ∧ b ≤ 1000000
    · obtain ⟨K, hd⟩ := divisor_tells a b h0.1 h1.1
      refine ⟨K, fun k hk => ?_⟩
      show impl_IsFraction.f k a b = _
      unfold impl_IsFraction.f
      have hd' : impl_divisor.f k a b = some ((Nat.gcd a.toNat b.toNat : Nat) : Int) := hd k hk
      rw [within_tells, within_tells, hd']
      simp only [h0, h1, and_self, decide_true, Option.bind_some, if_true, okF, Bool.true_and]
      congr 1
      rw [Bool.eq_iff_iff, beq_iff_eq, beq_iff_eq]
      omega
    · refine ⟨0, fun k _ => ?_⟩
      show impl_IsFraction.f k a b = _
      unfold impl_IsFraction.f
      rw [within_tells, within_tells]
      simp [h0, h1, okF]
  · refine ⟨0, fun k _ => ?_⟩
    show impl_IsFraction.f k a b = _
    unfold impl_IsFraction.f
    rw [within_tells]
    simp [h0, okF]

theorem nbGood_tells (a b : Int) : Ev (fun k => spec_nbGood.f k a b) (okF a b) := by
  by_cases h0 : 0 ≤ a ∧ a ≤ 1000000
  · by_cases h1 : 0 ≤ b ∧ b ≤ 1000000
    · refine ⟨b.toNat + 2, fun k hk => ?_⟩
      obtain ⟨k, rfl⟩ : ∃ m, k = m + 1 := ⟨k - 1, by omega⟩
      show spec_nbGood.f (k + 1) a b = _
      unfold spec_nbGood.f
      rw [l1In_tells, l1In_tells]
      simp only [h0, h1, and_self, decide_true, Option.bind_some, if_true, okF, Bool.true_and, Bool.not_true, spec_nbGood.j0, Bool.false_eq_true, if_false]
      have h := nbGood_rounds b.toNat a.toNat k (by omega)
      rw [Int.toNat_of_nonneg h0.1, Int.toNat_of_nonneg h1.1] at h
      exact h
    · refine ⟨1, fun k hk => ?_⟩
      obtain ⟨k, rfl⟩ : ∃ m, k = m + 1 := ⟨k - 1, by omega⟩
      show spec_nbGood.f (k + 1) a b = _
      unfold spec_nbGood.f
      rw [l1In_tells, l1In_tells]
      simp [h0, h1, okF, spec_nbGood.j0]
  · refine ⟨1, fun k hk => ?_⟩
    obtain ⟨k, rfl⟩ : ∃ m, k = m + 1 := ⟨k - 1, by omega⟩
    show spec_nbGood.f (k + 1) a b = _
    unfold spec_nbGood.f
    rw [l1In_tells]
    simp [h0, okF, spec_nbGood.j0]

theorem FnExactIsFraction (a b : Int) (_ : (Lit.int .i64 a).wf = true) (_ : (Lit.int .i64 b).wf = true) : ∃ k, laws_FnExactIsFraction.f k a b = some true := by
  refine Ev.rounds (Ev.congr (f := fun k => (spec_IsFraction.f k a b).bind fun t => (impl_IsFraction.f k a b).bind fun u => if (u != t) = true then some false else some true) (fun _ => rfl) ?_)
  refine Ev.bind (a := okF a b) (Ev.bind (nbGood_tells a b) (Ev.now _)) (Ev.bind (isFraction_tells a b) ?_)
  refine ⟨0, fun k _ => ?_⟩
  simp

end Go.Proofs.Ythhdedjfmjmgdaa.PureFnExactIsFraction
