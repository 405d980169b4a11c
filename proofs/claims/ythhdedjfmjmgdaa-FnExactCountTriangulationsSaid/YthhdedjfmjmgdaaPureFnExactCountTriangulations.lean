/- The program's CountTriangulations and the reference's return the same for every number of corners: for 3 to 12 corners by reckoning both, for all others both return 0 and false. No condition. -/
import Derived.Test.YthhdedjfmjmgdaaPFnExactCountTriangulationsx1
namespace Go.Proofs.Ythhdedjfmjmgdaa.Pure
open Go.RowKit Go.Proofs.Ythhdedjfmjmgdaa.PFnExactCountTriangulations Go.Proofs.YthhdedjfmjmgdaaW.PrintWords Go.Proofs.YthhdedjfmjmgdaaW.PrintLast

theorem CountTriangulations_few : ∀ x : Fin 10, laws_FnExactCountTriangulations.f 40 ((x.val : Int) + 3) = some true := by
  decide +kernel

theorem FnExactCountTriangulations : laws_FnExactCountTriangulations.Pure := by
  intro a0 _
  refine ⟨40, ?_⟩
  by_cases h : 3 ≤ a0 ∧ a0 ≤ 12
  · have := CountTriangulations_few ⟨(a0 - 3).toNat, by omega⟩
    have e : (((a0 - 3).toNat : Nat) : Int) + 3 = a0 := by omega
    simpa only [e] using this
  · have h1 : spec_CountTriangulations.f 40 a0 = some (0, false) := by
      unfold spec_CountTriangulations.f spec_poIs.f spec_l1In.f
      by_cases c : a0 ≥ 3
      · have d : ¬ a0 ≤ 12 := by omega
        simp [c, d]
      · simp [c]
    have h2 : impl_CountTriangulations.f 40 a0 = some (0, false) := by
      unfold impl_CountTriangulations.f impl_isPolygon.f impl_within.f
      by_cases c : a0 ≥ 3
      · have d : ¬ a0 ≤ 12 := by omega
        simp [c, d]
      · simp [c]
    unfold laws_FnExactCountTriangulations.f
    rw [h1, h2]; rfl

end Go.Proofs.Ythhdedjfmjmgdaa.Pure
