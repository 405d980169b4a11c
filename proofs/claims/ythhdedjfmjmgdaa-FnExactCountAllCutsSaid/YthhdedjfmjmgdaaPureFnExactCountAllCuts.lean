/- The program's CountAllCuts and the reference's return the same for every number of corners: reckoned for 3 to 12, 0 and false for all others. No condition. -/
import Derived.Test.YthhdedjfmjmgdaaPFnExactCountAllCutsx1
namespace Go.Proofs.Ythhdedjfmjmgdaa.Pure
open Go.RowKit Go.Proofs.Ythhdedjfmjmgdaa.PFnExactCountAllCuts Go.Proofs.YthhdedjfmjmgdaaW.PrintWords Go.Proofs.YthhdedjfmjmgdaaW.PrintLast

theorem CountAllCuts_few : ∀ x : Fin 10, laws_FnExactCountAllCuts.f 60 ((x.val : Int) + 3) = some true := by
  decide +kernel

theorem FnExactCountAllCuts : laws_FnExactCountAllCuts.Pure := by
  intro a0 _
  refine ⟨60, ?_⟩
  by_cases h : 3 ≤ a0 ∧ a0 ≤ 12
  · have := CountAllCuts_few ⟨(a0 - 3).toNat, by omega⟩
    have e : (((a0 - 3).toNat : Nat) : Int) + 3 = a0 := by omega
    simpa only [e] using this
  · have h1 : spec_CountAllCuts.f 60 a0 = some (0, false) := by
      unfold spec_CountAllCuts.f spec_poIs.f spec_l1In.f
      by_cases c : a0 ≥ 3
      · have d : ¬ a0 ≤ 12 := by omega
        simp [c, d]
      · simp [c]
    have h2 : impl_CountAllCuts.f 60 a0 = some (0, false) := by
      unfold impl_CountAllCuts.f impl_isPolygon.f impl_within.f
      by_cases c : a0 ≥ 3
      · have d : ¬ a0 ≤ 12 := by omega
        simp [c, d]
      · simp [c]
    unfold laws_FnExactCountAllCuts.f
    rw [h1, h2]; rfl

end Go.Proofs.Ythhdedjfmjmgdaa.Pure
