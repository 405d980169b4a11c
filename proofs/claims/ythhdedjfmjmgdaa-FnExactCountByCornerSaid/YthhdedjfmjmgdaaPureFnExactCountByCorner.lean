/- The program's CountByCorner and the reference's return the same for every number of corners: reckoned for 3 to 12, no list and false for all others; what is returned is a list of the call's own. No condition. -/
import Derived.Test.YthhdedjfmjmgdaaPFnExactCountByCornerx2
namespace Go.Proofs.Ythhdedjfmjmgdaa.Pure
open Go.RowKit Go.Proofs.Ythhdedjfmjmgdaa.PFnExactCountByCorner Go.Proofs.YthhdedjfmjmgdaaW.PrintWords Go.Proofs.YthhdedjfmjmgdaaW.PrintLast

theorem CountByCorner_few : ∀ x : Fin 10, laws_FnExactCountByCorner.f 60 ((x.val : Int) + 3) = some true := by
  decide +kernel

theorem FnExactCountByCorner : laws_FnExactCountByCorner.Pure := by
  intro a0 _
  refine ⟨60, ?_⟩
  by_cases h : 3 ≤ a0 ∧ a0 ≤ 12
  · have := CountByCorner_few ⟨(a0 - 3).toNat, by omega⟩
    have e : (((a0 - 3).toNat : Nat) : Int) + 3 = a0 := by omega
    simpa only [e] using this
  · have h1 : spec_CountByCorner.f 60 a0 = some ([], false) := by
      unfold spec_CountByCorner.f spec_poIs.f spec_l1In.f
      by_cases c : a0 ≥ 3
      · have d : ¬ a0 ≤ 12 := by omega
        simp [c, d]
      · simp [c]
    have h2 : ∀ k, impl_CountByCorner.f k a0 = some ([], false) := by
      intro k
      unfold impl_CountByCorner.f impl_isPolygon.f impl_within.f
      by_cases c : a0 ≥ 3
      · have d : ¬ a0 ≤ 12 := by omega
        simp [c, d]
      · simp [c]
    unfold laws_FnExactCountByCorner.f
    rw [h1, h2]
    show laws_FnExactCountByCorner.j0 60 a0 [] false [] false = some true
    have e : laws_FnExactCountByCorner.j0 60 a0 [] false [] false = ((impl_CountByCorner.f 59 a0).bind fun b => ((laws_eqIntS.f 59 b.1 []).bind fun t => (if t = true then (laws_FnExactCountByCorner.j1 59 [] 1 (b.2 != false)) else (laws_FnExactCountByCorner.j1 59 [] 1 true)))) := rfl
    rw [e, h2]
    decide +kernel

end Go.Proofs.Ythhdedjfmjmgdaa.Pure
