/- The program's CrossOf and the reference's return the same for every two pairs of numbers: both ask whether both pairs are fractions, and reckon the same cross. No condition. -/
import Derived.Test.YthhdedjfmjmgdaaPFnExactCrossOfx0
import Derived.Test.YthhdedjfmjmgdaaPFnExactCrossOfx1
import Derived.Test.YthhdedjfmjmgdaaPFnExactCrossOfx2
set_option linter.unusedSimpArgs false
set_option linter.unusedVariables false
namespace Go.Proofs.Ythhdedjfmjmgdaa.PureFnExactCrossOf
open Go.RowKit Go.Proofs.Ythhdedjfmjmgdaa.PFnExactCrossOf Go.Proofs.YthhdedjfmjmgdaaW.PrintWords Go.Proofs.YthhdedjfmjmgdaaW.PrintLast

theorem Ev.at1 {α : Type} {g : Nat → Option α} {r : α} (h : Ev g r) : ∃ K, ∀ j, g (K + j) = some r := by
  obtain ⟨K, h⟩ := h
  exact ⟨K, fun j => h _ (by omega)⟩
theorem Ev.at2 {α β : Type} {g : Nat → Option α} {r : α} {g2 : Nat → Option β} {r2 : β} (h : Ev g r) (h2 : Ev g2 r2) : ∃ K, (∀ j, g (K + j) = some r) ∧ ∀ j, g2 (K + j) = some r2 := by
  obtain ⟨K, h⟩ := h
  obtain ⟨K2, h2⟩ := h2
  exact ⟨K + K2, fun j => h _ (by omega), fun j => h2 _ (by omega)⟩
theorem Ev.at3 {α β γ : Type} {g : Nat → Option α} {r : α} {g2 : Nat → Option β} {r2 : β} {g3 : Nat → Option γ} {r3 : γ} (h : Ev g r) (h2 : Ev g2 r2) (h3 : Ev g3 r3) :
    ∃ K, (∀ j, g (K + j) = some r) ∧ (∀ j, g2 (K + j) = some r2) ∧ ∀ j, g3 (K + j) = some r3 := by
  obtain ⟨K, h⟩ := h
  obtain ⟨K2, h2⟩ := h2
  obtain ⟨K3, h3⟩ := h3
  exact ⟨K + K2 + K3, fun j => h _ (by omega), fun j => h2 _ (by omega), fun j => h3 _ (by omega)⟩
theorem Ev.at4 {α β γ δ : Type} {g : Nat → Option α} {r : α} {g2 : Nat → Option β} {r2 : β} {g3 : Nat → Option γ} {r3 : γ} {g4 : Nat → Option δ} {r4 : δ} (h : Ev g r) (h2 : Ev g2 r2) (h3 : Ev g3 r3) (h4 : Ev g4 r4) :
    ∃ K, (∀ j, g (K + j) = some r) ∧ (∀ j, g2 (K + j) = some r2) ∧ (∀ j, g3 (K + j) = some r3) ∧ ∀ j, g4 (K + j) = some r4 := by
  obtain ⟨K, e1, e2, e3⟩ := Ev.at3 h h2 h3
  obtain ⟨K4, h4⟩ := h4
  exact ⟨K + K4, fun j => by rw [Nat.add_assoc]; exact e1 _, fun j => by rw [Nat.add_assoc]; exact e2 _, fun j => by rw [Nat.add_assoc]; exact e3 _, fun j => h4 _ (by omega)⟩

theorem l1In_tells (a b c : Int) : spec_l1In.f a b c = some (decide (b ≤ a ∧ a ≤ c)) := by
  unfold spec_l1In.f
  by_cases h : a ≥ b
  · rw [if_pos h]
    have : b ≤ a := h
    simp [this]
  · rw [if_neg h]
    have : ¬ b ≤ a := h
    simp [this]

theorem nbGood_rounds (b : Nat) : ∀ (a k : Nat), b < k → spec_nbGood.l0 k (a : Int) (b : Int) = some (Nat.gcd a b == 1) := by
  induction b using Nat.strongRecOn with
  | _ b ih =>
    intro a k hk
    obtain ⟨k, rfl⟩ : ∃ m, k = m + 1 := ⟨k - 1, by omega⟩
    simp only [spec_nbGood.l0]
    by_cases h : b = 0
    · subst h
      rw [if_neg (by omega), Nat.gcd_zero_right]
      congr 1
      rw [Bool.eq_iff_iff, beq_iff_eq, beq_iff_eq]
      omega
    · have hm : a % b < b := Nat.mod_lt _ (by omega)
      rw [if_pos (by omega), if_neg (by omega), ← Int.ofNat_tmod, ih (a % b) hm b k (by omega), Nat.gcd_comm a b, Nat.gcd_rec b a, Nat.gcd_comm]

theorem nbGood_tells (a b : Int) : Ev (fun k => spec_nbGood.f k a b) (okF a b) := by
  by_cases h0 : 0 ≤ a ∧ a ≤ 1000000
  · by_cases h1 : 0 ≤ b ∧ b ≤ 1000000
    · refine ⟨b.toNat + 2, fun k hk => ?_⟩
      obtain ⟨k, rfl⟩ : ∃ m, k = m + 1 := ⟨k - 1, by omega⟩
      show spec_nbGood.f (k + 1) a b = _
      unfold spec_nbGood.f
      rw [l1In_tells, l1In_tells]
      simp only [h0, h1, and_self, decide_true, Option.bind_some, if_true, okF, Bool.true_and, Bool.not_true, spec_nbGood.j0, Bool.false_eq_true, if_false]
      have h := nbGood_rounds b.toNat a.toNat k (by omega)
      rw [Int.toNat_of_nonneg h0.1, Int.toNat_of_nonneg h1.1] at h
      exact h
    · refine ⟨1, fun k hk => ?_⟩
      obtain ⟨k, rfl⟩ : ∃ m, k = m + 1 := ⟨k - 1, by omega⟩
      show spec_nbGood.f (k + 1) a b = _
      unfold spec_nbGood.f
      rw [l1In_tells, l1In_tells]
      simp [h0, h1, okF, spec_nbGood.j0]
  · refine ⟨1, fun k hk => ?_⟩
    obtain ⟨k, rfl⟩ : ∃ m, k = m + 1 := ⟨k - 1, by omega⟩
    show spec_nbGood.f (k + 1) a b = _
    unfold spec_nbGood.f
    rw [l1In_tells]
    simp [h0, okF, spec_nbGood.j0]

theorem FnExactCrossOf (a b c d : Int) (_ : (Lit.int .i64 a).wf = true) (_ : (Lit.int .i64 b).wf = true) (_ : (Lit.int .i64 c).wf = true) (_ : (Lit.int .i64 d).wf = true) :
    ∃ k, laws_FnExactCrossOf.f k a b c d = some true := by
  have ha : impl_areFractions.f [⟨a, b⟩, ⟨c, d⟩] = some (okF a b && okF c d) := by
    unfold impl_areFractions.f
    simp
  obtain ⟨K, e0, e1⟩ := Ev.at2 (nbGood_tells a b) (nbGood_tells c d)
  refine ⟨K + 1, ?_⟩
  simp only [laws_FnExactCrossOf.f, laws_toFraction.f, Option.bind_some, spec_CrossOf.f, impl_CrossOf.f, e0, e1, ha]
  cases okF a b <;> cases okF c d <;> simp [spec_nbCross.f, impl_cross.f]

end Go.Proofs.Ythhdedjfmjmgdaa.PureFnExactCrossOf
