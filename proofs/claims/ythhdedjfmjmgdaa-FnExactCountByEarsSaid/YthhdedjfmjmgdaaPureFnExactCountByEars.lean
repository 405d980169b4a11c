/- The program's CountByEars and the reference's return the same for every number of corners: reckoned for 3 to 12, no list and false for all others; what is returned is a list of the call's own. No condition. -/
import Derived.Test.YthhdedjfmjmgdaaPFnExactCountByEarsx4
namespace Go.Proofs.Ythhdedjfmjmgdaa.Pure
open Go.RowKit Go.Proofs.Ythhdedjfmjmgdaa.PFnExactCountByEars Go.Proofs.YthhdedjfmjmgdaaW.PrintWords Go.Proofs.YthhdedjfmjmgdaaW.PrintLast

theorem CountByEars_few : ∀ x : Fin 10, laws_FnExactCountByEars.f 60 ((x.val : Int) + 3) = some true := by
  decide +kernel

theorem FnExactCountByEars : laws_FnExactCountByEars.Pure := by
  intro a0 _
  refine ⟨60, ?_⟩
  by_cases h : 3 ≤ a0 ∧ a0 ≤ 12
  · have := CountByEars_few ⟨(a0 - 3).toNat, by omega⟩
    have e : (((a0 - 3).toNat : Nat) : Int) + 3 = a0 := by omega
    simpa only [e] using this
  · have h1 : spec_CountByEars.f 60 a0 = some ([], false) := by
      unfold spec_CountByEars.f spec_poIs.f spec_l1In.f
      by_cases c : a0 ≥ 3
      · have d : ¬ a0 ≤ 12 := by omega
        simp [c, d]
      · simp [c]
    have h2 : ∀ k, impl_CountByEars.f k a0 = some ([], false) := by
      intro k
      unfold impl_CountByEars.f impl_isPolygon.f impl_within.f
      by_cases c : a0 ≥ 3
      · have d : ¬ a0 ≤ 12 := by omega
        simp [c, d]
      · simp [c]
    unfold laws_FnExactCountByEars.f
    rw [h1, h2]
    show laws_FnExactCountByEars.j0 60 a0 [] false [] false = some true
    have e : laws_FnExactCountByEars.j0 60 a0 [] false [] false = ((impl_CountByEars.f 59 a0).bind fun b => ((laws_eqIntS.f 59 b.1 []).bind fun t => (if t = true then (laws_FnExactCountByEars.j1 59 [] 1 (b.2 != false)) else (laws_FnExactCountByEars.j1 59 [] 1 true)))) := rfl
    rw [e, h2]
    decide +kernel

end Go.Proofs.Ythhdedjfmjmgdaa.Pure
