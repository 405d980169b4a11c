/- The program's CountEqualCuts and the reference's return the same for all numbers of corners and all sizes: reckoned where the size is at most the number of corners; a greater size leaves a remainder, so that both return 0 and true. No condition. -/
import Derived.Test.YthhdedjfmjmgdaaPFnExactCountEqualCutsx1
namespace Go.Proofs.Ythhdedjfmjmgdaa.Pure
open Go.RowKit Go.Proofs.Ythhdedjfmjmgdaa.PFnExactCountEqualCuts Go.Proofs.YthhdedjfmjmgdaaW.PrintWords Go.Proofs.YthhdedjfmjmgdaaW.PrintLast

theorem CountEqualCuts_few : ∀ x : Fin 10, ∀ y : Fin 10, y.val ≤ x.val → laws_FnExactCountEqualCuts.f 60 ((x.val : Int) + 3) ((y.val : Int) + 3) = some true := by
  decide +kernel

theorem FnExactCountEqualCuts : laws_FnExactCountEqualCuts.Pure := by
  intro a0 a1 _ hw
  refine ⟨60, ?_⟩
  have hb : a1 ≤ 9223372036854775807 := by
    have h2 := (Bool.and_eq_true_iff.mp (show (decide (IntKind.i64.min ≤ a1) && decide (a1 ≤ IntKind.i64.max)) = true from hw)).2
    have h3 : a1 ≤ IntKind.i64.max := of_decide_eq_true h2
    exact Int.le_trans h3 (by decide)
  by_cases h : 3 ≤ a0 ∧ a0 ≤ 12 ∧ 3 ≤ a1 ∧ a1 ≤ a0
  · have := CountEqualCuts_few ⟨(a0 - 3).toNat, by omega⟩ ⟨(a1 - 3).toNat, by omega⟩ (by show (a1 - 3).toNat ≤ (a0 - 3).toNat; omega)
    have e : (((a0 - 3).toNat : Nat) : Int) + 3 = a0 := by omega
    have e1 : (((a1 - 3).toNat : Nat) : Int) + 3 = a1 := by omega
    simpa only [e, e1] using this
  · by_cases c : 3 ≤ a0 ∧ a0 ≤ 12 ∧ 3 ≤ a1
    · obtain ⟨c1, c2, c3⟩ := c
      have g : a1 > a0 := by omega
      have w0 : wrap64 (a0 - 2) = a0 - 2 := by unfold wrap64; omega
      have w1 : wrap64 (a1 - 2) = a1 - 2 := by unfold wrap64; omega
      have n1 : ¬ a1 < 3 := by omega
      have n2 : ¬ a1 - 2 = 0 := by omega
      have md : Int.tmod (a0 - 2) (a1 - 2) = a0 - 2 := by
        rw [Int.tmod_eq_emod_of_nonneg (by omega)]
        exact Int.emod_eq_of_lt (by omega) (by omega)
      have n3 : ¬ a0 - 2 = 0 := by omega
      have h1 : spec_CountEqualCuts.f 60 a0 a1 = some (0, true) := by
        unfold spec_CountEqualCuts.f spec_poIs.f spec_l1In.f
        simp [c1, c2, n1, spec_CountEqualCuts.j0, g]
      have h2 : impl_CountEqualCuts.f 60 a0 a1 = some (0, true) := by
        unfold impl_CountEqualCuts.f impl_isPolygon.f impl_within.f
        simp [c1, c2, n1, impl_CountEqualCuts.j0, w0, w1, n2, md, n3]
      unfold laws_FnExactCountEqualCuts.f
      rw [h1, h2]; rfl
    · have h1 : spec_CountEqualCuts.f 60 a0 a1 = some (0, false) := by
        unfold spec_CountEqualCuts.f spec_poIs.f spec_l1In.f
        by_cases c1 : a0 ≥ 3
        · by_cases c2 : a0 ≤ 12
          · have n1 : a1 < 3 := by omega
            simp [c1, c2, n1, spec_CountEqualCuts.j0]
          · simp [c1, c2, spec_CountEqualCuts.j0]
        · simp [c1, spec_CountEqualCuts.j0]
      have h2 : impl_CountEqualCuts.f 60 a0 a1 = some (0, false) := by
        unfold impl_CountEqualCuts.f impl_isPolygon.f impl_within.f
        by_cases c1 : a0 ≥ 3
        · by_cases c2 : a0 ≤ 12
          · have n1 : a1 < 3 := by omega
            simp [c1, c2, n1, impl_CountEqualCuts.j0]
          · simp [c1, c2, impl_CountEqualCuts.j0]
        · simp [c1, impl_CountEqualCuts.j0]
      unfold laws_FnExactCountEqualCuts.f
      rw [h1, h2]; rfl

end Go.Proofs.Ythhdedjfmjmgdaa.Pure
