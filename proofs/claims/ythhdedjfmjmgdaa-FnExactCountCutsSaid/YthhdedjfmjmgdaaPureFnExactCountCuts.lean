/- The program's CountCuts and the reference's return the same for all numbers of corners and of diagonals: reckoned where a polygon has cuts with so many diagonals, 0 and false in all other cases. No condition. -/
import Derived.Test.YthhdedjfmjmgdaaPFnExactCountCutsx1
namespace Go.Proofs.Ythhdedjfmjmgdaa.Pure
open Go.RowKit Go.Proofs.Ythhdedjfmjmgdaa.PFnExactCountCuts Go.Proofs.YthhdedjfmjmgdaaW.PrintWords Go.Proofs.YthhdedjfmjmgdaaW.PrintLast

theorem CountCuts_few : ∀ x : Fin 10, ∀ y : Fin 10, y.val ≤ x.val → laws_FnExactCountCuts.f 40 ((x.val : Int) + 3) (y.val : Int) = some true := by
  decide +kernel

theorem CountCuts_minus (a : Int) (h0 : 3 ≤ a) (h : a ≤ 12) : wrap64 (a - 3) = a - 3 := by
  unfold wrap64; omega

theorem FnExactCountCuts : laws_FnExactCountCuts.Pure := by
  intro a0 a1 _ _
  refine ⟨40, ?_⟩
  by_cases h : 3 ≤ a0 ∧ a0 ≤ 12 ∧ 0 ≤ a1 ∧ a1 ≤ a0 - 3
  · have := CountCuts_few ⟨(a0 - 3).toNat, by omega⟩ ⟨a1.toNat, by omega⟩ (by show a1.toNat ≤ (a0 - 3).toNat; omega)
    have e : (((a0 - 3).toNat : Nat) : Int) + 3 = a0 := by omega
    have e1 : ((a1.toNat : Nat) : Int) = a1 := by omega
    simpa only [e, e1] using this
  · have h1 : spec_CountCuts.f 40 a0 a1 = some (0, false) := by
      unfold spec_CountCuts.f spec_poIs.f spec_l1In.f
      by_cases c : a0 ≥ 3
      · by_cases d : a0 ≤ 12
        · have w := CountCuts_minus a0 c d
          by_cases c1 : a1 ≥ 0
          · have d1 : ¬ a1 ≤ a0 - 3 := by omega
            simp [c, d, w, c1, d1]
          · simp [c, d, c1]
        · simp [c, d]
      · simp [c]
    have h2 : impl_CountCuts.f 40 a0 a1 = some (0, false) := by
      unfold impl_CountCuts.f impl_isPolygon.f impl_within.f
      by_cases c : a0 ≥ 3
      · by_cases d : a0 ≤ 12
        · have w := CountCuts_minus a0 c d
          by_cases c1 : a1 ≥ 0
          · have d1 : ¬ a1 ≤ a0 - 3 := by omega
            simp [c, d, w, c1, d1]
          · simp [c, d, c1]
        · simp [c, d]
      · simp [c]
    unfold laws_FnExactCountCuts.f
    rw [h1, h2]; rfl

end Go.Proofs.Ythhdedjfmjmgdaa.Pure
