-- WRITTEN BY A PROGRAM OF THIS WORK (wip/tools/ppatch.py) for this claim.
import Derived.Test.YtnikefebkcminaaPFnExactCommonDiagonalsx0
import Derived.Test.YtnikefebkcminaaPFnExactCommonDiagonalsx2
import Derived.Test.YtnikefebkcminaaPFnExactCommonDiagonalsx5
import Derived.Test.YtnikefebkcminaaPFnExactCommonDiagonalsx8
namespace Go.Proofs.Ytnikefebkcminaa.PFnExactCommonDiagonals
open Go.RowKit Go.Proofs.YtnikefebkcminaaW.PrintWords Go.Proofs.YtnikefebkcminaaW.PrintLast Go.Proofs.YtnikefebkcminaaW.PrintMore
attribute [local go_sem] max2_int min2_int max_two min_two max_three min_three max_four min_four   -- for this text's walks alone
set_option linter.unusedVariables false
set_option linter.unusedSimpArgs false

/-! ### laws_FnExactCommonDiagonals: function 10 -/
mutual
def laws_FnExactCommonDiagonals.j0 : Nat → Int → List (S82) → List (S82) → List (S72) → Bool → List (S72) → List (S72) → List (S72) → Bool → Bool → Option (Bool)
 | 0, _, _, _, _, _, _, _, _, _, _ => none
 | k + 1, x0, x1, x2, x8, x9, x10, x11, x12, x13, x57 => if x57 = true then (some false) else ((laws_toDiagonalS.f k x1).bind fun t223 => ((laws_eqDiagonalS.f k x10 t223).bind fun t226 => (if t226 = true then ((laws_toDiagonalS.f k x2).bind fun t227 => ((laws_eqDiagonalS.f k x11 t227).bind fun t230 => (if t230 = true then ((laws_markDiagonalS.f k x10 1).bind fun bt231 => ((laws_markDiagonalS.f k x11 bt231.1).bind fun bt233 => (if bt233.1 < 0 then (laws_FnExactCommonDiagonals.j1 k x0 x1 x2 x8 x9 x12 true) else ((laws_eqDiagonalS.f k x12 x8).bind fun t235 => (if t235 = true then (laws_FnExactCommonDiagonals.j1 k x0 x1 x2 x8 x9 x12 (x13 != x9)) else (laws_FnExactCommonDiagonals.j1 k x0 x1 x2 x8 x9 x12 true)))))) else (some false)))) else (some false))))
def laws_FnExactCommonDiagonals.j1 : Nat → Int → List (S82) → List (S82) → List (S72) → Bool → List (S72) → Bool → Option (Bool)
 | 0, _, _, _, _, _, _, _ => none
 | k + 1, x0, x1, x2, x8, x9, x12, x86 => if x86 = true then (some false) else ((laws_markDiagonalS.f k x12 1).bind fun bt236 => ((laws_heldDiagonalS.f k bt236.2 1).bind fun t238 => (if t238 < 0 then (some false) else (if t238 = bt236.1 then ((laws_toDiagonalS.f k x1).bind fun t239 => ((laws_toDiagonalS.f k x2).bind fun t242 => ((impl_CommonDiagonals.f k x0 t239 t242).bind fun bt245 => ((laws_eqDiagonalS.f k bt245.1 x8).bind fun t249 => (if t249 = true then (laws_FnExactCommonDiagonals.j2 k bt236.2 bt236.1 (bt245.2 != x9)) else (laws_FnExactCommonDiagonals.j2 k bt236.2 bt236.1 true)))))) else (some false)))))
def laws_FnExactCommonDiagonals.j2 : Nat → List (S72) → Int → Bool → Option (Bool)
 | 0, _, _, _ => none
 | k + 1, x12, x15, x115 => if x115 = true then (some false) else ((laws_heldDiagonalS.f k x12 1).bind fun t250 => (if t250 < 0 then (some false) else (if t250 = x15 then (some true) else (some false))))
end
def laws_FnExactCommonDiagonals.f (k : Nat) (a0 : Int) (l1 : List (S82)) (l2 : List (S82)) : Option (Bool) := (laws_szDiagonalS.f l1 1048576).bind fun t200 => (if t200 < 0 then (some true) else ((laws_szDiagonalS.f l2 t200).bind fun t201 => (if t201 < 0 then (some true) else ((laws_toDiagonalS.f k l1).bind fun t202 => ((laws_toDiagonalS.f k l2).bind fun t205 => ((spec_CommonDiagonals.f k a0 t202 t205).bind fun bt208 => ((laws_toDiagonalS.f k l1).bind fun t212 => ((laws_toDiagonalS.f k l2).bind fun t215 => ((impl_CommonDiagonals.f k a0 t212 t215).bind fun bt218 => ((laws_eqDiagonalS.f k bt218.1 bt208.1).bind fun t222 => (if t222 = true then (laws_FnExactCommonDiagonals.j0 k a0 l1 l2 bt208.1 bt208.2 t212 t215 bt218.1 bt218.2 (bt218.2 != bt208.2)) else (laws_FnExactCommonDiagonals.j0 k a0 l1 l2 bt208.1 bt208.2 t212 t215 bt218.1 bt218.2 true))))))))))))
theorem laws_FnExactCommonDiagonals.mono_l : ∀ k, (∀ y0 y1 y2 y3 y4 y5 y6 y7 y8 y9, LeO (laws_FnExactCommonDiagonals.j0 k y0 y1 y2 y3 y4 y5 y6 y7 y8 y9) (laws_FnExactCommonDiagonals.j0 (k + 1) y0 y1 y2 y3 y4 y5 y6 y7 y8 y9)) ∧ (∀ y0 y1 y2 y3 y4 y5 y6, LeO (laws_FnExactCommonDiagonals.j1 k y0 y1 y2 y3 y4 y5 y6) (laws_FnExactCommonDiagonals.j1 (k + 1) y0 y1 y2 y3 y4 y5 y6)) ∧ (∀ y0 y1 y2, LeO (laws_FnExactCommonDiagonals.j2 k y0 y1 y2) (laws_FnExactCommonDiagonals.j2 (k + 1) y0 y1 y2))
 | 0 => ⟨fun _ _ _ _ _ _ _ _ _ _ r h => by simp [laws_FnExactCommonDiagonals.j0] at h, fun _ _ _ _ _ _ _ r h => by simp [laws_FnExactCommonDiagonals.j1] at h, fun _ _ _ r h => by simp [laws_FnExactCommonDiagonals.j2] at h⟩
 | k + 1 => by
  obtain ⟨ih0, ih1, ih2⟩ := laws_FnExactCommonDiagonals.mono_l k
  refine ⟨?_, ?_, ?_⟩
  ·intro y0 y1 y2 y3 y4 y5 y6 y7 y8 y9
   unfold laws_FnExactCommonDiagonals.j0
   repeat' first
   | (with_reducible exact ih0 _ _ _ _ _ _ _ _ _ _)
   | (with_reducible exact ih1 _ _ _ _ _ _ _)
   | (with_reducible exact ih2 _ _ _)
   | (with_reducible exact impl_CommonDiagonals.mono _ _ _ _)
   | (with_reducible exact laws_eqDiagonalS.mono _ _ _)
   | (with_reducible exact laws_heldDiagonalS.mono _ _ _)
   | (with_reducible exact laws_markDiagonalS.mono _ _ _)
   | (with_reducible exact laws_toDiagonalS.mono _ _)
   | (with_reducible exact spec_CommonDiagonals.mono _ _ _ _)
   | (with_reducible exact LeO.refl _)
   | (with_reducible exact LeO.none _)
   | (with_reducible refine LeO.ite ?_ ?_)
   | (with_reducible refine LeO.bind ?_ (fun _ => ?_))
   | exact ih0 _ _ _ _ _ _ _ _ _ _
   | exact ih1 _ _ _ _ _ _ _
   | exact ih2 _ _ _
   | exact impl_CommonDiagonals.mono _ _ _ _
   | exact laws_eqDiagonalS.mono _ _ _
   | exact laws_heldDiagonalS.mono _ _ _
   | exact laws_markDiagonalS.mono _ _ _
   | exact laws_toDiagonalS.mono _ _
   | exact spec_CommonDiagonals.mono _ _ _ _
   | exact LeO.none _
   | refine LeO.ite ?_ ?_
   | refine LeO.bind ?_ (fun _ => ?_)
  ·intro y0 y1 y2 y3 y4 y5 y6
   unfold laws_FnExactCommonDiagonals.j1
   repeat' first
   | (with_reducible exact ih0 _ _ _ _ _ _ _ _ _ _)
   | (with_reducible exact ih1 _ _ _ _ _ _ _)
   | (with_reducible exact ih2 _ _ _)
   | (with_reducible exact impl_CommonDiagonals.mono _ _ _ _)
   | (with_reducible exact laws_eqDiagonalS.mono _ _ _)
   | (with_reducible exact laws_heldDiagonalS.mono _ _ _)
   | (with_reducible exact laws_markDiagonalS.mono _ _ _)
   | (with_reducible exact laws_toDiagonalS.mono _ _)
   | (with_reducible exact spec_CommonDiagonals.mono _ _ _ _)
   | (with_reducible exact LeO.refl _)
   | (with_reducible exact LeO.none _)
   | (with_reducible refine LeO.ite ?_ ?_)
   | (with_reducible refine LeO.bind ?_ (fun _ => ?_))
   | exact ih0 _ _ _ _ _ _ _ _ _ _
   | exact ih1 _ _ _ _ _ _ _
   | exact ih2 _ _ _
   | exact impl_CommonDiagonals.mono _ _ _ _
   | exact laws_eqDiagonalS.mono _ _ _
   | exact laws_heldDiagonalS.mono _ _ _
   | exact laws_markDiagonalS.mono _ _ _
   | exact laws_toDiagonalS.mono _ _
   | exact spec_CommonDiagonals.mono _ _ _ _
   | exact LeO.none _
   | refine LeO.ite ?_ ?_
   | refine LeO.bind ?_ (fun _ => ?_)
  ·intro y0 y1 y2
   unfold laws_FnExactCommonDiagonals.j2
   repeat' first
   | (with_reducible exact ih0 _ _ _ _ _ _ _ _ _ _)
   | (with_reducible exact ih1 _ _ _ _ _ _ _)
   | (with_reducible exact ih2 _ _ _)
   | (with_reducible exact impl_CommonDiagonals.mono _ _ _ _)
   | (with_reducible exact laws_eqDiagonalS.mono _ _ _)
   | (with_reducible exact laws_heldDiagonalS.mono _ _ _)
   | (with_reducible exact laws_markDiagonalS.mono _ _ _)
   | (with_reducible exact laws_toDiagonalS.mono _ _)
   | (with_reducible exact spec_CommonDiagonals.mono _ _ _ _)
   | (with_reducible exact LeO.refl _)
   | (with_reducible exact LeO.none _)
   | (with_reducible refine LeO.ite ?_ ?_)
   | (with_reducible refine LeO.bind ?_ (fun _ => ?_))
   | exact ih0 _ _ _ _ _ _ _ _ _ _
   | exact ih1 _ _ _ _ _ _ _
   | exact ih2 _ _ _
   | exact impl_CommonDiagonals.mono _ _ _ _
   | exact laws_eqDiagonalS.mono _ _ _
   | exact laws_heldDiagonalS.mono _ _ _
   | exact laws_markDiagonalS.mono _ _ _
   | exact laws_toDiagonalS.mono _ _
   | exact spec_CommonDiagonals.mono _ _ _ _
   | exact LeO.none _
   | refine LeO.ite ?_ ?_
   | refine LeO.bind ?_ (fun _ => ?_)
theorem laws_FnExactCommonDiagonals.mono : ∀ a0 a1 a2 k, LeO (laws_FnExactCommonDiagonals.f k a0 a1 a2) (laws_FnExactCommonDiagonals.f (k + 1) a0 a1 a2) := by
 intro a0 a1 a2 k
 obtain ⟨ih0, ih1, ih2⟩ := laws_FnExactCommonDiagonals.mono_l k
 unfold laws_FnExactCommonDiagonals.f
 repeat' first
   | (with_reducible exact ih0 _ _ _ _ _ _ _ _ _ _)
   | (with_reducible exact ih1 _ _ _ _ _ _ _)
   | (with_reducible exact ih2 _ _ _)
   | (with_reducible exact impl_CommonDiagonals.mono _ _ _ _)
   | (with_reducible exact laws_eqDiagonalS.mono _ _ _)
   | (with_reducible exact laws_heldDiagonalS.mono _ _ _)
   | (with_reducible exact laws_markDiagonalS.mono _ _ _)
   | (with_reducible exact laws_toDiagonalS.mono _ _)
   | (with_reducible exact spec_CommonDiagonals.mono _ _ _ _)
   | (with_reducible exact LeO.refl _)
   | (with_reducible exact LeO.none _)
   | (with_reducible refine LeO.ite ?_ ?_)
   | (with_reducible refine LeO.bind ?_ (fun _ => ?_))
   | exact ih0 _ _ _ _ _ _ _ _ _ _
   | exact ih1 _ _ _ _ _ _ _
   | exact ih2 _ _ _
   | exact impl_CommonDiagonals.mono _ _ _ _
   | exact laws_eqDiagonalS.mono _ _ _
   | exact laws_heldDiagonalS.mono _ _ _
   | exact laws_markDiagonalS.mono _ _ _
   | exact laws_toDiagonalS.mono _ _
   | exact spec_CommonDiagonals.mono _ _ _ _
   | exact LeO.none _
   | refine LeO.ite ?_ ?_
   | refine LeO.bind ?_ (fun _ => ?_)
set_option maxHeartbeats 8000000 in
set_option maxRecDepth 100000 in
theorem laws_FnExactCommonDiagonals.calls (k : Nat) (a0 : Int) (A1 : Option Addr) (c1 : Nat) (l1 : List (S82)) (A2 : Option Addr) (c2 : Nat) (l2 : List (S82)) (r : Bool) (w : World) (hr1 : Kd.C k82 w A1 l1.length l1) (hc1 : l1.length ≤ c1) (hr2 : Kd.C k82 w A2 l2.length l2) (hc2 : l2.length ≤ c2) (h : laws_FnExactCommonDiagonals.f k a0 l1 l2 = some r) (htrue : Aside0 (r = true) := by exact ⟨rfl⟩) :
  Calls Try.prog 10 #[.int .i64 a0, .slice A1 l1.length c1, .slice A2 l2.length c2] w fun e w' => e = .returned (.bool r) ∧ Below w.heap.size w w' := by
 have HR1 := Aside0.mk hr1
 have HC1 := Aside0.mk hc1
 clear hr1 hc1
 have HR2 := Aside0.mk hr2
 have HC2 := Aside0.mk hc2
 clear hr2 hc2
 have HB := Aside0.mk (Below.refl w.heap.size w)
 have H : ((laws_szDiagonalS.f l1 1048576).bind fun t200 => (if t200 < 0 then (some true) else ((laws_szDiagonalS.f l2 t200).bind fun t201 => (if t201 < 0 then (some true) else ((laws_toDiagonalS.f k l1).bind fun t202 => ((laws_toDiagonalS.f k l2).bind fun t205 => ((spec_CommonDiagonals.f k a0 t202 t205).bind fun bt208 => ((laws_toDiagonalS.f k l1).bind fun t212 => ((laws_toDiagonalS.f k l2).bind fun t215 => ((impl_CommonDiagonals.f k a0 t212 t215).bind fun bt218 => ((laws_eqDiagonalS.f k bt218.1 bt208.1).bind fun t222 => (if t222 = true then (laws_FnExactCommonDiagonals.j0 k a0 l1 l2 bt208.1 bt208.2 t212 t215 bt218.1 bt218.2 (bt218.2 != bt208.2)) else (laws_FnExactCommonDiagonals.j0 k a0 l1 l2 bt208.1 bt208.2 t212 t215 bt218.1 bt218.2 true))))))))))))) = some r := h
 clear h
 replace H := Option.bind_eq_some_iff.mp H
 obtain ⟨t200, A40, H⟩ := H
 replace H : (if t200 < 0 then (some true) else ((laws_szDiagonalS.f l2 t200).bind fun t201 => (if t201 < 0 then (some true) else ((laws_toDiagonalS.f k l1).bind fun t202 => ((laws_toDiagonalS.f k l2).bind fun t205 => ((spec_CommonDiagonals.f k a0 t202 t205).bind fun bt208 => ((laws_toDiagonalS.f k l1).bind fun t212 => ((laws_toDiagonalS.f k l2).bind fun t215 => ((impl_CommonDiagonals.f k a0 t212 t215).bind fun bt218 => ((laws_eqDiagonalS.f k bt218.1 bt208.1).bind fun t222 => (if t222 = true then (laws_FnExactCommonDiagonals.j0 k a0 l1 l2 bt208.1 bt208.2 t212 t215 bt218.1 bt218.2 (bt218.2 != bt208.2)) else (laws_FnExactCommonDiagonals.j0 k a0 l1 l2 bt208.1 bt208.2 t212 t215 bt218.1 bt218.2 true)))))))))))) = some r := H
 have A4 := Aside0.mk A40
 clear A40
 by_cases c5 : t200 < 0
 ·rw [if_pos c5] at H
  have c5b0 : decide (t200 < 0) = true := decide_eq_true c5
  clear c5
  obtain rfl := Option.some.inj H
  go_enter Try.func10, Try.ntmps10
  go_wp2_with (first | ((with_reducible refine gate_callee (f := 28) rfl ?_); refine goesL_ (some 21) rfl rfl Try.func28 (by kernel_rfl) rfl #[.slice A1 l1.length c1, .int .i64 1048576] rfl amp_ ?_; (with_reducible refine (laws_szDiagonalS.calls _ _ l1 1048576 t200 _ ?side1 ?side2 A4.out).mono ?_); (case side1 => repeat (first | exact HR1.out | (with_reducible refine Kd.C_alloc ?_ _) | (with_reducible refine Kd.C_drewN ?_ _) | (with_reducible refine Kd.C_drew ?_))); (case side2 => exact HC1.out); rintro e w' ⟨rfl, ⟨nd, rfl⟩⟩; refine ⟨_, rfl, ?_⟩))
  go_ret
  exact ⟨by first | rfl | (simp [errW_none, errW_some] <;> rfl) | (simp [*, errW_none, errW_some] <;> rfl), by repeat (first | (with_reducible first | exact HB.out | apply below_alloc | apply pw_below_drewN | apply below_drew1) | exact HB.out)⟩
 ·rw [if_neg c5] at H
  have c5b0 : decide (t200 < 0) = false := decide_eq_false c5
  clear c5
  replace H := Option.bind_eq_some_iff.mp H
  obtain ⟨t201, A60, H⟩ := H
  replace H : (if t201 < 0 then (some true) else ((laws_toDiagonalS.f k l1).bind fun t202 => ((laws_toDiagonalS.f k l2).bind fun t205 => ((spec_CommonDiagonals.f k a0 t202 t205).bind fun bt208 => ((laws_toDiagonalS.f k l1).bind fun t212 => ((laws_toDiagonalS.f k l2).bind fun t215 => ((impl_CommonDiagonals.f k a0 t212 t215).bind fun bt218 => ((laws_eqDiagonalS.f k bt218.1 bt208.1).bind fun t222 => (if t222 = true then (laws_FnExactCommonDiagonals.j0 k a0 l1 l2 bt208.1 bt208.2 t212 t215 bt218.1 bt218.2 (bt218.2 != bt208.2)) else (laws_FnExactCommonDiagonals.j0 k a0 l1 l2 bt208.1 bt208.2 t212 t215 bt218.1 bt218.2 true)))))))))) = some r := H
  have A6 := Aside0.mk A60
  clear A60
  by_cases c7 : t201 < 0
  ·rw [if_pos c7] at H
   have c7b0 : decide (t201 < 0) = true := decide_eq_true c7
   clear c7
   obtain rfl := Option.some.inj H
   go_enter Try.func10, Try.ntmps10
   go_wp2_with (first | ((with_reducible refine gate_callee (f := 28) rfl ?_); refine goesL_ (some 21) rfl rfl Try.func28 (by kernel_rfl) rfl #[.slice A1 l1.length c1, .int .i64 1048576] rfl amp_ ?_; (with_reducible refine (laws_szDiagonalS.calls _ _ l1 1048576 t200 _ ?side1 ?side2 A4.out).mono ?_); (case side1 => repeat (first | exact HR1.out | (with_reducible refine Kd.C_alloc ?_ _) | (with_reducible refine Kd.C_drewN ?_ _) | (with_reducible refine Kd.C_drew ?_))); (case side2 => exact HC1.out); rintro e w' ⟨rfl, ⟨nd, rfl⟩⟩; refine ⟨_, rfl, ?_⟩) | ((with_reducible refine gate_callee (f := 28) rfl ?_); refine goesL_ (some 26) rfl rfl Try.func28 (by kernel_rfl) rfl #[.slice A2 l2.length c2, .int .i64 t200] rfl amp_ ?_; (with_reducible refine (laws_szDiagonalS.calls _ _ l2 t200 t201 _ ?side1 ?side2 A6.out).mono ?_); (case side1 => repeat (first | exact HR2.out | (with_reducible refine Kd.C_alloc ?_ _) | (with_reducible refine Kd.C_drewN ?_ _) | (with_reducible refine Kd.C_drew ?_))); (case side2 => exact HC2.out); rintro e w' ⟨rfl, ⟨nd, rfl⟩⟩; refine ⟨_, rfl, ?_⟩))
   go_ret
   exact ⟨by first | rfl | (simp [errW_none, errW_some] <;> rfl) | (simp [*, errW_none, errW_some] <;> rfl), by repeat (first | (with_reducible first | exact HB.out | apply below_alloc | apply pw_below_drewN | apply below_drew1) | exact HB.out)⟩
  ·rw [if_neg c7] at H
   have c7b0 : decide (t201 < 0) = false := decide_eq_false c7
   clear c7
   replace H := Option.bind_eq_some_iff.mp H
   obtain ⟨t202, A80, H⟩ := H
   replace H : ((laws_toDiagonalS.f k l2).bind fun t205 => ((spec_CommonDiagonals.f k a0 t202 t205).bind fun bt208 => ((laws_toDiagonalS.f k l1).bind fun t212 => ((laws_toDiagonalS.f k l2).bind fun t215 => ((impl_CommonDiagonals.f k a0 t212 t215).bind fun bt218 => ((laws_eqDiagonalS.f k bt218.1 bt208.1).bind fun t222 => (if t222 = true then (laws_FnExactCommonDiagonals.j0 k a0 l1 l2 bt208.1 bt208.2 t212 t215 bt218.1 bt218.2 (bt218.2 != bt208.2)) else (laws_FnExactCommonDiagonals.j0 k a0 l1 l2 bt208.1 bt208.2 t212 t215 bt218.1 bt218.2 true)))))))) = some r := H
   have A8 := Aside0.mk A80
   clear A80
   replace H := Option.bind_eq_some_iff.mp H
   obtain ⟨t205, A90, H⟩ := H
   replace H : ((spec_CommonDiagonals.f k a0 t202 t205).bind fun bt208 => ((laws_toDiagonalS.f k l1).bind fun t212 => ((laws_toDiagonalS.f k l2).bind fun t215 => ((impl_CommonDiagonals.f k a0 t212 t215).bind fun bt218 => ((laws_eqDiagonalS.f k bt218.1 bt208.1).bind fun t222 => (if t222 = true then (laws_FnExactCommonDiagonals.j0 k a0 l1 l2 bt208.1 bt208.2 t212 t215 bt218.1 bt218.2 (bt218.2 != bt208.2)) else (laws_FnExactCommonDiagonals.j0 k a0 l1 l2 bt208.1 bt208.2 t212 t215 bt218.1 bt218.2 true))))))) = some r := H
   have A9 := Aside0.mk A90
   clear A90
   replace H := Option.bind_eq_some_iff.mp H
   obtain ⟨⟨t208, t209⟩, A100, H⟩ := H
   replace H : ((laws_toDiagonalS.f k l1).bind fun t212 => ((laws_toDiagonalS.f k l2).bind fun t215 => ((impl_CommonDiagonals.f k a0 t212 t215).bind fun bt218 => ((laws_eqDiagonalS.f k bt218.1 t208).bind fun t222 => (if t222 = true then (laws_FnExactCommonDiagonals.j0 k a0 l1 l2 t208 t209 t212 t215 bt218.1 bt218.2 (bt218.2 != t209)) else (laws_FnExactCommonDiagonals.j0 k a0 l1 l2 t208 t209 t212 t215 bt218.1 bt218.2 true)))))) = some r := H
   have A10 := Aside0.mk A100
   clear A100
   replace H := Option.bind_eq_some_iff.mp H
   obtain ⟨t212, A110, H⟩ := H
   replace H : ((laws_toDiagonalS.f k l2).bind fun t215 => ((impl_CommonDiagonals.f k a0 t212 t215).bind fun bt218 => ((laws_eqDiagonalS.f k bt218.1 t208).bind fun t222 => (if t222 = true then (laws_FnExactCommonDiagonals.j0 k a0 l1 l2 t208 t209 t212 t215 bt218.1 bt218.2 (bt218.2 != t209)) else (laws_FnExactCommonDiagonals.j0 k a0 l1 l2 t208 t209 t212 t215 bt218.1 bt218.2 true))))) = some r := H
   have A11 := Aside0.mk A110
   clear A110
   replace H := Option.bind_eq_some_iff.mp H
   obtain ⟨t215, A120, H⟩ := H
   replace H : ((impl_CommonDiagonals.f k a0 t212 t215).bind fun bt218 => ((laws_eqDiagonalS.f k bt218.1 t208).bind fun t222 => (if t222 = true then (laws_FnExactCommonDiagonals.j0 k a0 l1 l2 t208 t209 t212 t215 bt218.1 bt218.2 (bt218.2 != t209)) else (laws_FnExactCommonDiagonals.j0 k a0 l1 l2 t208 t209 t212 t215 bt218.1 bt218.2 true)))) = some r := H
   have A12 := Aside0.mk A120
   clear A120
   replace H := Option.bind_eq_some_iff.mp H
   obtain ⟨⟨t218, t219⟩, A130, H⟩ := H
   replace H : ((laws_eqDiagonalS.f k t218 t208).bind fun t222 => (if t222 = true then (laws_FnExactCommonDiagonals.j0 k a0 l1 l2 t208 t209 t212 t215 t218 t219 (t219 != t209)) else (laws_FnExactCommonDiagonals.j0 k a0 l1 l2 t208 t209 t212 t215 t218 t219 true))) = some r := H
   have A13 := Aside0.mk A130
   clear A130
   have HC14 := Aside0.mk H
   clear H
   go_enter Try.func10, Try.ntmps10
   go_upto_region 12 with (first | ((with_reducible refine gate_callee (f := 28) rfl ?_); refine goesL_ (some 21) rfl rfl Try.func28 (by kernel_rfl) rfl #[.slice A1 l1.length c1, .int .i64 1048576] rfl amp_ ?_; (with_reducible refine (laws_szDiagonalS.calls _ _ l1 1048576 t200 _ ?side1 ?side2 A4.out).mono ?_); (case side1 => repeat (first | exact HR1.out | (with_reducible refine Kd.C_alloc ?_ _) | (with_reducible refine Kd.C_drewN ?_ _) | (with_reducible refine Kd.C_drew ?_))); (case side2 => exact HC1.out); rintro e w' ⟨rfl, ⟨nd, rfl⟩⟩; refine ⟨_, rfl, ?_⟩) | ((with_reducible refine gate_callee (f := 28) rfl ?_); refine goesL_ (some 26) rfl rfl Try.func28 (by kernel_rfl) rfl #[.slice A2 l2.length c2, .int .i64 t200] rfl amp_ ?_; (with_reducible refine (laws_szDiagonalS.calls _ _ l2 t200 t201 _ ?side1 ?side2 A6.out).mono ?_); (case side1 => repeat (first | exact HR2.out | (with_reducible refine Kd.C_alloc ?_ _) | (with_reducible refine Kd.C_drewN ?_ _) | (with_reducible refine Kd.C_drew ?_))); (case side2 => exact HC2.out); rintro e w' ⟨rfl, ⟨nd, rfl⟩⟩; refine ⟨_, rfl, ?_⟩) | ((with_reducible refine gate_callee (f := 30) rfl ?_); refine goesL_ (some 32) rfl rfl Try.func30 (by kernel_rfl) rfl #[.slice A1 l1.length c1] rfl amp_ ?_; (with_reducible refine (laws_toDiagonalS.calls k _ _ l1 t202 _ ?side1 ?side2 A8.out).mono ?_); (case side1 => repeat (first | exact HR1.out | (with_reducible refine Kd.C_alloc ?_ _) | (with_reducible refine Kd.C_drewN ?_ _) | (with_reducible refine Kd.C_drew ?_))); (case side2 => exact HC1.out); rintro e w15 ⟨v203, rfl, ho0, hb⟩; refine ⟨_, rfl, ?_⟩; have n0_ := Aside0.mk (Kd.R_lower ho0 (below_size blw_)); have n1_ := Aside0.mk (below_step blw_ hb); clear HB; have HO204 := n0_; have HB := n1_; clear n0_ n1_; (try clear hb); (try clear hb2); (try clear hk); (try clear hi); (try clear ho0)) | ((with_reducible refine gate_callee (f := 30) rfl ?_); refine goesL_ (some 34) rfl rfl Try.func30 (by kernel_rfl) rfl #[.slice A2 l2.length c2] rfl amp_ ?_; (with_reducible refine (laws_toDiagonalS.calls k _ _ l2 t205 _ ?side1 ?side2 A9.out).mono ?_); (case side1 => repeat (first | exact (Kd.C_below HR2.out HB.out) | (with_reducible refine Kd.C_alloc ?_ _) | (with_reducible refine Kd.C_drewN ?_ _) | (with_reducible refine Kd.C_drew ?_))); (case side2 => exact HC2.out); rintro e w16 ⟨v206, rfl, ho0, hb⟩; refine ⟨_, rfl, ?_⟩; have n0_ := Aside0.mk (Kd.R_elder' (ra_ HO204.out) (Kd.R_base ho0) hb); have n1_ := Aside0.mk (Kd.R_lower (Kd.R_new' ho0 (Kd.R_lt (ra_ HO204.out))) (below_size blw_)); have n2_ := Aside0.mk (below_step blw_ hb); clear HO204; clear HB; have HO204 := n0_; have HO207 := n1_; have HB := n2_; clear n0_ n1_ n2_; (try clear hb); (try clear hb2); (try clear hk); (try clear hi); (try clear ho0); obtain ⟨Ao17, co17, eo17⟩ := Kd.R_slice HO204.out; subst eo17; obtain ⟨Ao18, co18, eo18⟩ := Kd.R_slice HO207.out; subst eo18) | ((with_reducible refine gate_callee (f := 39) rfl ?_); refine goesL_ (some 35) rfl rfl Try.func39 (by kernel_rfl) rfl #[.int .i64 a0, .slice Ao17 t202.length co17, .slice Ao18 t205.length co18] rfl amp_ ?_; (with_reducible refine (spec_CommonDiagonals.calls k a0 _ _ t202 _ _ t205 t208 t209 _ ?side1 ?side2 ?side3 ?side4 A10.out).mono ?_); (case side1 => repeat (first | exact (Kd.R_reads' HO204.out).2.2 | (with_reducible refine Kd.C_alloc ?_ _) | (with_reducible refine Kd.C_drewN ?_ _) | (with_reducible refine Kd.C_drew ?_))); (case side2 => exact (Kd.R_reads' HO204.out).2.1); (case side3 => repeat (first | exact (Kd.R_reads' HO207.out).2.2 | (with_reducible refine Kd.C_alloc ?_ _) | (with_reducible refine Kd.C_drewN ?_ _) | (with_reducible refine Kd.C_drew ?_))); (case side4 => exact (Kd.R_reads' HO207.out).2.1); rintro e w19 ⟨v210, rfl, ho0, hb⟩; refine ⟨_, rfl, ?_⟩; have n0_ := Aside0.mk (Kd.R_elder' (ra_ HO204.out) (Kd.R_base ho0) hb); have n1_ := Aside0.mk (Kd.R_elder' (ra_ HO207.out) (Kd.R_base ho0) hb); have n2_ := Aside0.mk (Kd.R_lower (Kd.R_new' (Kd.R_new' ho0 (Kd.R_lt (ra_ HO204.out))) (Kd.R_lt (ra_ HO207.out))) (below_size blw_)); have n3_ := Aside0.mk (below_step blw_ hb); clear HO204; clear HO207; clear HB; have HO204 := n0_; have HO207 := n1_; have HO211 := n2_; have HB := n3_; clear n0_ n1_ n2_ n3_; (try clear hb); (try clear hb2); (try clear hk); (try clear hi); (try clear ho0)) | ((with_reducible refine gate_callee (f := 30) rfl ?_); refine goesL_ (some 39) rfl rfl Try.func30 (by kernel_rfl) rfl #[.slice A1 l1.length c1] rfl amp_ ?_; (with_reducible refine (laws_toDiagonalS.calls k _ _ l1 t212 _ ?side1 ?side2 A11.out).mono ?_); (case side1 => repeat (first | exact (Kd.C_below HR1.out HB.out) | (with_reducible refine Kd.C_alloc ?_ _) | (with_reducible refine Kd.C_drewN ?_ _) | (with_reducible refine Kd.C_drew ?_))); (case side2 => exact HC1.out); rintro e w20 ⟨v213, rfl, ho0, hb⟩; refine ⟨_, rfl, ?_⟩; have n0_ := Aside0.mk (Kd.R_elder' (ra_ HO204.out) (Kd.R_base ho0) hb); have n1_ := Aside0.mk (Kd.R_elder' (ra_ HO207.out) (Kd.R_base ho0) hb); have n2_ := Aside0.mk (Kd.R_elder' (ra_ HO211.out) (Kd.R_base ho0) hb); have n3_ := Aside0.mk (Kd.R_lower (Kd.R_new' (Kd.R_new' (Kd.R_new' ho0 (Kd.R_lt (ra_ HO204.out))) (Kd.R_lt (ra_ HO207.out))) (Kd.R_lt (ra_ HO211.out))) (below_size blw_)); have n4_ := Aside0.mk (below_step blw_ hb); clear HO204; clear HO207; clear HO211; clear HB; have HO204 := n0_; have HO207 := n1_; have HO211 := n2_; have HO214 := n3_; have HB := n4_; clear n0_ n1_ n2_ n3_ n4_; (try clear hb); (try clear hb2); (try clear hk); (try clear hi); (try clear ho0)) | ((with_reducible refine gate_callee (f := 30) rfl ?_); refine goesL_ (some 41) rfl rfl Try.func30 (by kernel_rfl) rfl #[.slice A2 l2.length c2] rfl amp_ ?_; (with_reducible refine (laws_toDiagonalS.calls k _ _ l2 t215 _ ?side1 ?side2 A12.out).mono ?_); (case side1 => repeat (first | exact (Kd.C_below HR2.out HB.out) | (with_reducible refine Kd.C_alloc ?_ _) | (with_reducible refine Kd.C_drewN ?_ _) | (with_reducible refine Kd.C_drew ?_))); (case side2 => exact HC2.out); rintro e w21 ⟨v216, rfl, ho0, hb⟩; refine ⟨_, rfl, ?_⟩; have n0_ := Aside0.mk (Kd.R_elder' (ra_ HO204.out) (Kd.R_base ho0) hb); have n1_ := Aside0.mk (Kd.R_elder' (ra_ HO207.out) (Kd.R_base ho0) hb); have n2_ := Aside0.mk (Kd.R_elder' (ra_ HO211.out) (Kd.R_base ho0) hb); have n3_ := Aside0.mk (Kd.R_elder' (ra_ HO214.out) (Kd.R_base ho0) hb); have n4_ := Aside0.mk (Kd.R_lower (Kd.R_new' (Kd.R_new' (Kd.R_new' (Kd.R_new' ho0 (Kd.R_lt (ra_ HO204.out))) (Kd.R_lt (ra_ HO207.out))) (Kd.R_lt (ra_ HO211.out))) (Kd.R_lt (ra_ HO214.out))) (below_size blw_)); have n5_ := Aside0.mk (below_step blw_ hb); clear HO204; clear HO207; clear HO211; clear HO214; clear HB; have HO204 := n0_; have HO207 := n1_; have HO211 := n2_; have HO214 := n3_; have HO217 := n4_; have HB := n5_; clear n0_ n1_ n2_ n3_ n4_ n5_; (try clear hb); (try clear hb2); (try clear hk); (try clear hi); (try clear ho0); obtain ⟨Ao22, co22, eo22⟩ := Kd.R_slice HO214.out; subst eo22; obtain ⟨Ao23, co23, eo23⟩ := Kd.R_slice HO217.out; subst eo23) | ((with_reducible refine gate_callee (f := 40) rfl ?_); refine goesL_ (some 46) rfl rfl Try.func40 (by kernel_rfl) rfl #[.int .i64 a0, .slice Ao22 t212.length co22, .slice Ao23 t215.length co23] rfl amp_ ?_; (with_reducible refine (impl_CommonDiagonals.calls k a0 _ _ t212 _ _ t215 t218 t219 _ ?side1 ?side2 ?side3 ?side4 A13.out).mono ?_); (case side1 => repeat (first | exact (Kd.R_reads' HO214.out).2.2 | (with_reducible refine Kd.C_alloc ?_ _) | (with_reducible refine Kd.C_drewN ?_ _) | (with_reducible refine Kd.C_drew ?_))); (case side2 => exact (Kd.R_reads' HO214.out).2.1); (case side3 => repeat (first | exact (Kd.R_reads' HO217.out).2.2 | (with_reducible refine Kd.C_alloc ?_ _) | (with_reducible refine Kd.C_drewN ?_ _) | (with_reducible refine Kd.C_drew ?_))); (case side4 => exact (Kd.R_reads' HO217.out).2.1); rintro e w24 ⟨v220, rfl, ho0, hb⟩; refine ⟨_, rfl, ?_⟩; have n0_ := Aside0.mk (Kd.R_elder' (ra_ HO204.out) (Kd.R_base ho0) hb); have n1_ := Aside0.mk (Kd.R_elder' (ra_ HO207.out) (Kd.R_base ho0) hb); have n2_ := Aside0.mk (Kd.R_elder' (ra_ HO211.out) (Kd.R_base ho0) hb); have n3_ := Aside0.mk (Kd.R_elder' (ra_ HO214.out) (Kd.R_base ho0) hb); have n4_ := Aside0.mk (Kd.R_elder' (ra_ HO217.out) (Kd.R_base ho0) hb); have n5_ := Aside0.mk (Kd.R_lower (Kd.R_new' (Kd.R_new' (Kd.R_new' (Kd.R_new' (Kd.R_new' ho0 (Kd.R_lt (ra_ HO204.out))) (Kd.R_lt (ra_ HO207.out))) (Kd.R_lt (ra_ HO211.out))) (Kd.R_lt (ra_ HO214.out))) (Kd.R_lt (ra_ HO217.out))) (below_size blw_)); have n6_ := Aside0.mk (below_step blw_ hb); clear HO204; clear HO207; clear HO211; clear HO214; clear HO217; clear HB; have HO204 := n0_; have HO207 := n1_; have HO211 := n2_; have HO214 := n3_; have HO217 := n4_; have HO221 := n5_; have HB := n6_; clear n0_ n1_ n2_ n3_ n4_ n5_ n6_; (try clear hb); (try clear hb2); (try clear hk); (try clear hi); (try clear ho0)))
   (try simp only [Act.put, List.setIfInBounds_toArray, List.set_cons_zero, List.set_cons_succ])
   go_cut [57] (fun v57 wc => ∃ (kq : Nat) (x57_13 : Bool), v57 = .bool x57_13 ∧ Aside0 (laws_FnExactCommonDiagonals.j0 kq a0 l1 l2 t208 t209 t212 t215 t218 t219 x57_13 = some r) ∧ Aside0 (kq ≤ k) ∧ Aside0 (Kd.R k72 72 wc w.heap.size (fun k_ => some k_ ≠ ((.slice Ao22 t212.length co22) : Value).ownBlock ∧ some k_ ≠ ((.slice Ao23 t215.length co23) : Value).ownBlock ∧ some k_ ≠ (v220 : Value).ownBlock) v210 t208) ∧ Aside0 (Kd.R k72 72 wc w.heap.size (fun k_ => some k_ ≠ (v210 : Value).ownBlock ∧ some k_ ≠ ((.slice Ao23 t215.length co23) : Value).ownBlock ∧ some k_ ≠ (v220 : Value).ownBlock) (.slice Ao22 t212.length co22) t212) ∧ Aside0 (Kd.R k72 72 wc w.heap.size (fun k_ => some k_ ≠ (v210 : Value).ownBlock ∧ some k_ ≠ ((.slice Ao22 t212.length co22) : Value).ownBlock ∧ some k_ ≠ (v220 : Value).ownBlock) (.slice Ao23 t215.length co23) t215) ∧ Aside0 (Kd.R k72 72 wc w.heap.size (fun k_ => some k_ ≠ (v210 : Value).ownBlock ∧ some k_ ≠ ((.slice Ao22 t212.length co22) : Value).ownBlock ∧ some k_ ≠ ((.slice Ao23 t215.length co23) : Value).ownBlock) v220 t218) ∧ Aside0 (Below w.heap.size w wc))
   case first =>
    have H := HC14.out
    clear HC14
    replace H := Option.bind_eq_some_iff.mp H
    obtain ⟨t222, A250, H⟩ := H
    replace H : (if t222 = true then (laws_FnExactCommonDiagonals.j0 k a0 l1 l2 t208 t209 t212 t215 t218 t219 (t219 != t209)) else (laws_FnExactCommonDiagonals.j0 k a0 l1 l2 t208 t209 t212 t215 t218 t219 true)) = some r := H
    have A25 := Aside0.mk A250
    clear A250
    by_cases c26 : t222 = true
    ·subst c26
     have H1 : (laws_FnExactCommonDiagonals.j0 k a0 l1 l2 t208 t209 t212 t215 t218 t219 (t219 != t209)) = some r := by rw [if_pos rfl] at H; exact H
     clear H
     have H := H1
     clear H1
     have H' := Aside0.mk H
     clear H
     obtain ⟨Ao27, co27, eo27⟩ := Kd.R_slice HO221.out
     subst eo27
     obtain ⟨Ao28, co28, eo28⟩ := Kd.R_slice HO211.out
     subst eo28
     go_wp2_with (first | ((with_reducible refine gate_callee (f := 20) rfl ?_); refine goesL_ (some 51) rfl rfl Try.func20 (by kernel_rfl) rfl #[.slice Ao27 t218.length co27, .slice Ao28 t208.length co28] rfl amp_ ?_; (with_reducible refine (laws_eqDiagonalS.calls k _ _ t218 _ _ t208 true _ ?side1 ?side2 ?side3 ?side4 A25.out).mono ?_); (case side1 => repeat (first | exact (Kd.R_reads' HO221.out).2.2 | (with_reducible refine Kd.C_alloc ?_ _) | (with_reducible refine Kd.C_drewN ?_ _) | (with_reducible refine Kd.C_drew ?_))); (case side2 => exact (Kd.R_reads' HO221.out).2.1); (case side3 => repeat (first | exact (Kd.R_reads' HO211.out).2.2 | (with_reducible refine Kd.C_alloc ?_ _) | (with_reducible refine Kd.C_drewN ?_ _) | (with_reducible refine Kd.C_drew ?_))); (case side4 => exact (Kd.R_reads' HO211.out).2.1); rintro e w29 ⟨rfl, hb⟩; refine ⟨_, rfl, ?_⟩; have n0_ := Aside0.mk (Kd.R_below (ra_ HO204.out) hb); have n1_ := Aside0.mk (Kd.R_below (ra_ HO207.out) hb); have n2_ := Aside0.mk (Kd.R_below (ra_ HO211.out) hb); have n3_ := Aside0.mk (Kd.R_below (ra_ HO214.out) hb); have n4_ := Aside0.mk (Kd.R_below (ra_ HO217.out) hb); have n5_ := Aside0.mk (Kd.R_below (ra_ HO221.out) hb); have n6_ := Aside0.mk (below_step blw_ hb); clear HO204; clear HO207; clear HO211; clear HO214; clear HO217; clear HO221; clear HB; have HO204 := n0_; have HO207 := n1_; have HO211 := n2_; have HO214 := n3_; have HO217 := n4_; have HO221 := n5_; have HB := n6_; clear n0_ n1_ n2_ n3_ n4_ n5_ n6_; (try clear hb); (try clear hb2); (try clear hk); (try clear hi)))
     go_meet
     case rel => exact ⟨_, ((t219 != t209)), (by first | rfl | (simp; done) | (simp [*]; done)), H', ⟨by first | omega | exact Nat.le_refl _⟩, ⟨by (with_reducible repeat (first | apply Kd.R_alloc | apply Kd.R_drewN | apply Kd.R_drew)); exact Kd.R_mono HO211.out (fun _ hk => ⟨hk.1.1.2, ⟨hk.1.2, hk.2⟩⟩)⟩, ⟨by (with_reducible repeat (first | apply Kd.R_alloc | apply Kd.R_drewN | apply Kd.R_drew)); exact Kd.R_mono HO214.out (fun _ hk => ⟨hk.1.1.2, ⟨hk.1.2, hk.2⟩⟩)⟩, ⟨by (with_reducible repeat (first | apply Kd.R_alloc | apply Kd.R_drewN | apply Kd.R_drew)); exact Kd.R_mono HO217.out (fun _ hk => ⟨hk.1.1.2, ⟨hk.1.2, hk.2⟩⟩)⟩, ⟨by (with_reducible repeat (first | apply Kd.R_alloc | apply Kd.R_drewN | apply Kd.R_drew)); exact Kd.R_mono HO221.out (fun _ hk => ⟨hk.1.1.2, ⟨hk.1.2, hk.2⟩⟩)⟩, ⟨by repeat (first | (with_reducible first | exact HB.out | apply below_alloc | apply pw_below_drewN | apply below_drew1) | exact HB.out)⟩⟩
    ·replace c26 := Bool.eq_false_iff.mpr c26
     subst c26
     have H1 : (laws_FnExactCommonDiagonals.j0 k a0 l1 l2 t208 t209 t212 t215 t218 t219 true) = some r := by rw [if_neg (show ¬ (false = true) by decide)] at H; exact H
     clear H
     have H := H1
     clear H1
     have H' := Aside0.mk H
     clear H
     obtain ⟨Ao30, co30, eo30⟩ := Kd.R_slice HO221.out
     subst eo30
     obtain ⟨Ao31, co31, eo31⟩ := Kd.R_slice HO211.out
     subst eo31
     go_wp2_with (first | ((with_reducible refine gate_callee (f := 20) rfl ?_); refine goesL_ (some 51) rfl rfl Try.func20 (by kernel_rfl) rfl #[.slice Ao30 t218.length co30, .slice Ao31 t208.length co31] rfl amp_ ?_; (with_reducible refine (laws_eqDiagonalS.calls k _ _ t218 _ _ t208 false _ ?side1 ?side2 ?side3 ?side4 A25.out).mono ?_); (case side1 => repeat (first | exact (Kd.R_reads' HO221.out).2.2 | (with_reducible refine Kd.C_alloc ?_ _) | (with_reducible refine Kd.C_drewN ?_ _) | (with_reducible refine Kd.C_drew ?_))); (case side2 => exact (Kd.R_reads' HO221.out).2.1); (case side3 => repeat (first | exact (Kd.R_reads' HO211.out).2.2 | (with_reducible refine Kd.C_alloc ?_ _) | (with_reducible refine Kd.C_drewN ?_ _) | (with_reducible refine Kd.C_drew ?_))); (case side4 => exact (Kd.R_reads' HO211.out).2.1); rintro e w32 ⟨rfl, hb⟩; refine ⟨_, rfl, ?_⟩; have n0_ := Aside0.mk (Kd.R_below (ra_ HO204.out) hb); have n1_ := Aside0.mk (Kd.R_below (ra_ HO207.out) hb); have n2_ := Aside0.mk (Kd.R_below (ra_ HO211.out) hb); have n3_ := Aside0.mk (Kd.R_below (ra_ HO214.out) hb); have n4_ := Aside0.mk (Kd.R_below (ra_ HO217.out) hb); have n5_ := Aside0.mk (Kd.R_below (ra_ HO221.out) hb); have n6_ := Aside0.mk (below_step blw_ hb); clear HO204; clear HO207; clear HO211; clear HO214; clear HO217; clear HO221; clear HB; have HO204 := n0_; have HO207 := n1_; have HO211 := n2_; have HO214 := n3_; have HO217 := n4_; have HO221 := n5_; have HB := n6_; clear n0_ n1_ n2_ n3_ n4_ n5_ n6_; (try clear hb); (try clear hb2); (try clear hk); (try clear hi)))
     go_meet
     case rel => exact ⟨_, (true), (by first | rfl | (simp; done) | (simp [*]; done)), H', ⟨by first | omega | exact Nat.le_refl _⟩, ⟨by (with_reducible repeat (first | apply Kd.R_alloc | apply Kd.R_drewN | apply Kd.R_drew)); exact Kd.R_mono HO211.out (fun _ hk => ⟨hk.1.1.2, ⟨hk.1.2, hk.2⟩⟩)⟩, ⟨by (with_reducible repeat (first | apply Kd.R_alloc | apply Kd.R_drewN | apply Kd.R_drew)); exact Kd.R_mono HO214.out (fun _ hk => ⟨hk.1.1.2, ⟨hk.1.2, hk.2⟩⟩)⟩, ⟨by (with_reducible repeat (first | apply Kd.R_alloc | apply Kd.R_drewN | apply Kd.R_drew)); exact Kd.R_mono HO217.out (fun _ hk => ⟨hk.1.1.2, ⟨hk.1.2, hk.2⟩⟩)⟩, ⟨by (with_reducible repeat (first | apply Kd.R_alloc | apply Kd.R_drewN | apply Kd.R_drew)); exact Kd.R_mono HO221.out (fun _ hk => ⟨hk.1.1.2, ⟨hk.1.2, hk.2⟩⟩)⟩, ⟨by repeat (first | (with_reducible first | exact HB.out | apply below_alloc | apply pw_below_drewN | apply below_drew1) | exact HB.out)⟩⟩
   case rest =>
    clear HC14
    try clear c1
    try clear c2
    try clear p2
    try clear c3
    try clear c4
    try clear c5
    try clear c5b0
    try clear c7
    try clear c7b0
    try clear c10
    try clear c20
    try clear c26
    try clear c28
    try clear c30
    obtain ⟨kq, x57_13, rfl, HA, HJ13, HO_8, HO_10, HO_11, HO_12, HB⟩ := hcut
    cases kq with
    | zero => exact absurd HA.out (by simp [laws_FnExactCommonDiagonals.j0])
    | succ kj13 =>
     have H := HA.out
     clear HA
     simp only [laws_FnExactCommonDiagonals.j0] at H
     by_cases c33 : x57_13 = true
     ·subst c33
      have H1 : (some false) = some r := by rw [if_pos rfl] at H; exact H
      clear H
      have H := H1
      clear H1
      exact absurd (H.trans (congrArg some htrue.out)) (by decide)
     ·replace c33 := Bool.eq_false_iff.mpr c33
      subst c33
      have H1 : ((laws_toDiagonalS.f kj13 l1).bind fun t223 => ((laws_eqDiagonalS.f kj13 t212 t223).bind fun t226 => (if t226 = true then ((laws_toDiagonalS.f kj13 l2).bind fun t227 => ((laws_eqDiagonalS.f kj13 t215 t227).bind fun t230 => (if t230 = true then ((laws_markDiagonalS.f kj13 t212 1).bind fun bt231 => ((laws_markDiagonalS.f kj13 t215 bt231.1).bind fun bt233 => (if bt233.1 < 0 then (laws_FnExactCommonDiagonals.j1 kj13 a0 l1 l2 t208 t209 t218 true) else ((laws_eqDiagonalS.f kj13 t218 t208).bind fun t235 => (if t235 = true then (laws_FnExactCommonDiagonals.j1 kj13 a0 l1 l2 t208 t209 t218 (t219 != t209)) else (laws_FnExactCommonDiagonals.j1 kj13 a0 l1 l2 t208 t209 t218 true)))))) else (some false)))) else (some false)))) = some r := by rw [if_neg (show ¬ (false = true) by decide)] at H; exact H
      clear H
      have H := H1
      clear H1
      replace H := Option.bind_eq_some_iff.mp H
      obtain ⟨t223, A340, H⟩ := H
      replace H : ((laws_eqDiagonalS.f kj13 t212 t223).bind fun t226 => (if t226 = true then ((laws_toDiagonalS.f kj13 l2).bind fun t227 => ((laws_eqDiagonalS.f kj13 t215 t227).bind fun t230 => (if t230 = true then ((laws_markDiagonalS.f kj13 t212 1).bind fun bt231 => ((laws_markDiagonalS.f kj13 t215 bt231.1).bind fun bt233 => (if bt233.1 < 0 then (laws_FnExactCommonDiagonals.j1 kj13 a0 l1 l2 t208 t209 t218 true) else ((laws_eqDiagonalS.f kj13 t218 t208).bind fun t235 => (if t235 = true then (laws_FnExactCommonDiagonals.j1 kj13 a0 l1 l2 t208 t209 t218 (t219 != t209)) else (laws_FnExactCommonDiagonals.j1 kj13 a0 l1 l2 t208 t209 t218 true)))))) else (some false)))) else (some false))) = some r := H
      have A34 := Aside0.mk A340
      clear A340
      replace H := Option.bind_eq_some_iff.mp H
      obtain ⟨t226, A350, H⟩ := H
      replace H : (if t226 = true then ((laws_toDiagonalS.f kj13 l2).bind fun t227 => ((laws_eqDiagonalS.f kj13 t215 t227).bind fun t230 => (if t230 = true then ((laws_markDiagonalS.f kj13 t212 1).bind fun bt231 => ((laws_markDiagonalS.f kj13 t215 bt231.1).bind fun bt233 => (if bt233.1 < 0 then (laws_FnExactCommonDiagonals.j1 kj13 a0 l1 l2 t208 t209 t218 true) else ((laws_eqDiagonalS.f kj13 t218 t208).bind fun t235 => (if t235 = true then (laws_FnExactCommonDiagonals.j1 kj13 a0 l1 l2 t208 t209 t218 (t219 != t209)) else (laws_FnExactCommonDiagonals.j1 kj13 a0 l1 l2 t208 t209 t218 true)))))) else (some false)))) else (some false)) = some r := H
      have A35 := Aside0.mk A350
      clear A350
      by_cases c36 : t226 = true
      ·subst c36
       have H1 : ((laws_toDiagonalS.f kj13 l2).bind fun t227 => ((laws_eqDiagonalS.f kj13 t215 t227).bind fun t230 => (if t230 = true then ((laws_markDiagonalS.f kj13 t212 1).bind fun bt231 => ((laws_markDiagonalS.f kj13 t215 bt231.1).bind fun bt233 => (if bt233.1 < 0 then (laws_FnExactCommonDiagonals.j1 kj13 a0 l1 l2 t208 t209 t218 true) else ((laws_eqDiagonalS.f kj13 t218 t208).bind fun t235 => (if t235 = true then (laws_FnExactCommonDiagonals.j1 kj13 a0 l1 l2 t208 t209 t218 (t219 != t209)) else (laws_FnExactCommonDiagonals.j1 kj13 a0 l1 l2 t208 t209 t218 true)))))) else (some false)))) = some r := by rw [if_pos rfl] at H; exact H
       clear H
       have H := H1
       clear H1
       replace H := Option.bind_eq_some_iff.mp H
       obtain ⟨t227, A370, H⟩ := H
       replace H : ((laws_eqDiagonalS.f kj13 t215 t227).bind fun t230 => (if t230 = true then ((laws_markDiagonalS.f kj13 t212 1).bind fun bt231 => ((laws_markDiagonalS.f kj13 t215 bt231.1).bind fun bt233 => (if bt233.1 < 0 then (laws_FnExactCommonDiagonals.j1 kj13 a0 l1 l2 t208 t209 t218 true) else ((laws_eqDiagonalS.f kj13 t218 t208).bind fun t235 => (if t235 = true then (laws_FnExactCommonDiagonals.j1 kj13 a0 l1 l2 t208 t209 t218 (t219 != t209)) else (laws_FnExactCommonDiagonals.j1 kj13 a0 l1 l2 t208 t209 t218 true)))))) else (some false))) = some r := H
       have A37 := Aside0.mk A370
       clear A370
       replace H := Option.bind_eq_some_iff.mp H
       obtain ⟨t230, A380, H⟩ := H
       replace H : (if t230 = true then ((laws_markDiagonalS.f kj13 t212 1).bind fun bt231 => ((laws_markDiagonalS.f kj13 t215 bt231.1).bind fun bt233 => (if bt233.1 < 0 then (laws_FnExactCommonDiagonals.j1 kj13 a0 l1 l2 t208 t209 t218 true) else ((laws_eqDiagonalS.f kj13 t218 t208).bind fun t235 => (if t235 = true then (laws_FnExactCommonDiagonals.j1 kj13 a0 l1 l2 t208 t209 t218 (t219 != t209)) else (laws_FnExactCommonDiagonals.j1 kj13 a0 l1 l2 t208 t209 t218 true)))))) else (some false)) = some r := H
       have A38 := Aside0.mk A380
       clear A380
       by_cases c39 : t230 = true
       ·subst c39
        have H1 : ((laws_markDiagonalS.f kj13 t212 1).bind fun bt231 => ((laws_markDiagonalS.f kj13 t215 bt231.1).bind fun bt233 => (if bt233.1 < 0 then (laws_FnExactCommonDiagonals.j1 kj13 a0 l1 l2 t208 t209 t218 true) else ((laws_eqDiagonalS.f kj13 t218 t208).bind fun t235 => (if t235 = true then (laws_FnExactCommonDiagonals.j1 kj13 a0 l1 l2 t208 t209 t218 (t219 != t209)) else (laws_FnExactCommonDiagonals.j1 kj13 a0 l1 l2 t208 t209 t218 true)))))) = some r := by rw [if_pos rfl] at H; exact H
        clear H
        have H := H1
        clear H1
        replace H := Option.bind_eq_some_iff.mp H
        obtain ⟨⟨t231, t232⟩, A400, H⟩ := H
        replace H : ((laws_markDiagonalS.f kj13 t215 t231).bind fun bt233 => (if bt233.1 < 0 then (laws_FnExactCommonDiagonals.j1 kj13 a0 l1 l2 t208 t209 t218 true) else ((laws_eqDiagonalS.f kj13 t218 t208).bind fun t235 => (if t235 = true then (laws_FnExactCommonDiagonals.j1 kj13 a0 l1 l2 t208 t209 t218 (t219 != t209)) else (laws_FnExactCommonDiagonals.j1 kj13 a0 l1 l2 t208 t209 t218 true))))) = some r := H
        have A40 := Aside0.mk A400
        clear A400
        replace H := Option.bind_eq_some_iff.mp H
        obtain ⟨⟨t233, t234⟩, A410, H⟩ := H
        replace H : (if t233 < 0 then (laws_FnExactCommonDiagonals.j1 kj13 a0 l1 l2 t208 t209 t218 true) else ((laws_eqDiagonalS.f kj13 t218 t208).bind fun t235 => (if t235 = true then (laws_FnExactCommonDiagonals.j1 kj13 a0 l1 l2 t208 t209 t218 (t219 != t209)) else (laws_FnExactCommonDiagonals.j1 kj13 a0 l1 l2 t208 t209 t218 true)))) = some r := H
        have A41 := Aside0.mk A410
        clear A410
        have HC42 := Aside0.mk H
        clear H
        go_upto_region 21 with (first | ((with_reducible refine gate_callee (f := 30) rfl ?_); refine goesL_ (some 60) rfl rfl Try.func30 (by kernel_rfl) rfl #[.slice A1 l1.length c1] rfl amp_ ?_; (with_reducible refine (laws_toDiagonalS.calls kj13 _ _ l1 t223 _ ?side1 ?side2 A34.out).mono ?_); (case side1 => repeat (first | exact (Kd.C_below HR1.out HB.out) | (with_reducible refine Kd.C_alloc ?_ _) | (with_reducible refine Kd.C_drewN ?_ _) | (with_reducible refine Kd.C_drew ?_))); (case side2 => exact HC1.out); rintro e w43 ⟨v224, rfl, ho0, hb⟩; refine ⟨_, rfl, ?_⟩; have n0_ := Aside0.mk (Kd.R_elder' (ra_ HO_8.out) (Kd.R_base ho0) hb); have n1_ := Aside0.mk (Kd.R_elder' (ra_ HO_10.out) (Kd.R_base ho0) hb); have n2_ := Aside0.mk (Kd.R_elder' (ra_ HO_11.out) (Kd.R_base ho0) hb); have n3_ := Aside0.mk (Kd.R_elder' (ra_ HO_12.out) (Kd.R_base ho0) hb); have n4_ := Aside0.mk (Kd.R_lower (Kd.R_new' (Kd.R_new' (Kd.R_new' (Kd.R_new' ho0 (Kd.R_lt (ra_ HO_8.out))) (Kd.R_lt (ra_ HO_10.out))) (Kd.R_lt (ra_ HO_11.out))) (Kd.R_lt (ra_ HO_12.out))) (below_size blw_)); have n5_ := Aside0.mk (below_step blw_ hb); clear HO_8; clear HO_10; clear HO_11; clear HO_12; clear HB; have HO_8 := n0_; have HO_10 := n1_; have HO_11 := n2_; have HO_12 := n3_; have HO225 := n4_; have HB := n5_; clear n0_ n1_ n2_ n3_ n4_ n5_; (try clear hb); (try clear hb2); (try clear hk); (try clear hi); (try clear ho0); obtain ⟨Ao44, co44, eo44⟩ := Kd.R_slice HO225.out; subst eo44) | ((with_reducible refine gate_callee (f := 20) rfl ?_); refine goesL_ (some 61) rfl rfl Try.func20 (by kernel_rfl) rfl #[.slice Ao22 t212.length co22, .slice Ao44 t223.length co44] rfl amp_ ?_; (with_reducible refine (laws_eqDiagonalS.calls kj13 _ _ t212 _ _ t223 true _ ?side1 ?side2 ?side3 ?side4 A35.out).mono ?_); (case side1 => repeat (first | exact (Kd.R_reads' HO_10.out).2.2 | (with_reducible refine Kd.C_alloc ?_ _) | (with_reducible refine Kd.C_drewN ?_ _) | (with_reducible refine Kd.C_drew ?_))); (case side2 => exact (Kd.R_reads' HO_10.out).2.1); (case side3 => repeat (first | exact (Kd.R_reads' HO225.out).2.2 | (with_reducible refine Kd.C_alloc ?_ _) | (with_reducible refine Kd.C_drewN ?_ _) | (with_reducible refine Kd.C_drew ?_))); (case side4 => exact (Kd.R_reads' HO225.out).2.1); rintro e w45 ⟨rfl, hb⟩; refine ⟨_, rfl, ?_⟩; have n0_ := Aside0.mk (Kd.R_below (ra_ HO_8.out) hb); have n1_ := Aside0.mk (Kd.R_below (ra_ HO_10.out) hb); have n2_ := Aside0.mk (Kd.R_below (ra_ HO_11.out) hb); have n3_ := Aside0.mk (Kd.R_below (ra_ HO_12.out) hb); have n4_ := Aside0.mk (Kd.R_below (ra_ HO225.out) hb); have n5_ := Aside0.mk (below_step blw_ hb); clear HO_8; clear HO_10; clear HO_11; clear HO_12; clear HO225; clear HB; have HO_8 := n0_; have HO_10 := n1_; have HO_11 := n2_; have HO_12 := n3_; have HO225 := n4_; have HB := n5_; clear n0_ n1_ n2_ n3_ n4_ n5_; (try clear hb); (try clear hb2); (try clear hk); (try clear hi)) | ((with_reducible refine gate_callee (f := 30) rfl ?_); refine goesL_ (some 65) rfl rfl Try.func30 (by kernel_rfl) rfl #[.slice A2 l2.length c2] rfl amp_ ?_; (with_reducible refine (laws_toDiagonalS.calls kj13 _ _ l2 t227 _ ?side1 ?side2 A37.out).mono ?_); (case side1 => repeat (first | exact (Kd.C_below HR2.out HB.out) | (with_reducible refine Kd.C_alloc ?_ _) | (with_reducible refine Kd.C_drewN ?_ _) | (with_reducible refine Kd.C_drew ?_))); (case side2 => exact HC2.out); rintro e w46 ⟨v228, rfl, ho0, hb⟩; refine ⟨_, rfl, ?_⟩; have n0_ := Aside0.mk (Kd.R_elder' (ra_ HO_8.out) (Kd.R_base ho0) hb); have n1_ := Aside0.mk (Kd.R_elder' (ra_ HO_10.out) (Kd.R_base ho0) hb); have n2_ := Aside0.mk (Kd.R_elder' (ra_ HO_11.out) (Kd.R_base ho0) hb); have n3_ := Aside0.mk (Kd.R_elder' (ra_ HO_12.out) (Kd.R_base ho0) hb); have n4_ := Aside0.mk (Kd.R_elder' (ra_ HO225.out) (Kd.R_base ho0) hb); have n5_ := Aside0.mk (Kd.R_lower (Kd.R_new' (Kd.R_new' (Kd.R_new' (Kd.R_new' (Kd.R_new' ho0 (Kd.R_lt (ra_ HO_8.out))) (Kd.R_lt (ra_ HO_10.out))) (Kd.R_lt (ra_ HO_11.out))) (Kd.R_lt (ra_ HO_12.out))) (Kd.R_lt (ra_ HO225.out))) (below_size blw_)); have n6_ := Aside0.mk (below_step blw_ hb); clear HO_8; clear HO_10; clear HO_11; clear HO_12; clear HO225; clear HB; have HO_8 := n0_; have HO_10 := n1_; have HO_11 := n2_; have HO_12 := n3_; have HO225 := n4_; have HO229 := n5_; have HB := n6_; clear n0_ n1_ n2_ n3_ n4_ n5_ n6_; (try clear hb); (try clear hb2); (try clear hk); (try clear hi); (try clear ho0); obtain ⟨Ao47, co47, eo47⟩ := Kd.R_slice HO229.out; subst eo47) | ((with_reducible refine gate_callee (f := 20) rfl ?_); refine goesL_ (some 66) rfl rfl Try.func20 (by kernel_rfl) rfl #[.slice Ao23 t215.length co23, .slice Ao47 t227.length co47] rfl amp_ ?_; (with_reducible refine (laws_eqDiagonalS.calls kj13 _ _ t215 _ _ t227 true _ ?side1 ?side2 ?side3 ?side4 A38.out).mono ?_); (case side1 => repeat (first | exact (Kd.R_reads' HO_11.out).2.2 | (with_reducible refine Kd.C_alloc ?_ _) | (with_reducible refine Kd.C_drewN ?_ _) | (with_reducible refine Kd.C_drew ?_))); (case side2 => exact (Kd.R_reads' HO_11.out).2.1); (case side3 => repeat (first | exact (Kd.R_reads' HO229.out).2.2 | (with_reducible refine Kd.C_alloc ?_ _) | (with_reducible refine Kd.C_drewN ?_ _) | (with_reducible refine Kd.C_drew ?_))); (case side4 => exact (Kd.R_reads' HO229.out).2.1); rintro e w48 ⟨rfl, hb⟩; refine ⟨_, rfl, ?_⟩; have n0_ := Aside0.mk (Kd.R_below (ra_ HO_8.out) hb); have n1_ := Aside0.mk (Kd.R_below (ra_ HO_10.out) hb); have n2_ := Aside0.mk (Kd.R_below (ra_ HO_11.out) hb); have n3_ := Aside0.mk (Kd.R_below (ra_ HO_12.out) hb); have n4_ := Aside0.mk (Kd.R_below (ra_ HO225.out) hb); have n5_ := Aside0.mk (Kd.R_below (ra_ HO229.out) hb); have n6_ := Aside0.mk (below_step blw_ hb); clear HO_8; clear HO_10; clear HO_11; clear HO_12; clear HO225; clear HO229; clear HB; have HO_8 := n0_; have HO_10 := n1_; have HO_11 := n2_; have HO_12 := n3_; have HO225 := n4_; have HO229 := n5_; have HB := n6_; clear n0_ n1_ n2_ n3_ n4_ n5_ n6_; (try clear hb); (try clear hb2); (try clear hk); (try clear hi)) | ((with_reducible refine gate_callee (f := 23) rfl ?_); refine goesL_ (some 70) rfl rfl Try.func23 (by kernel_rfl) rfl #[.slice Ao22 t212.length co22, .int .i64 1] rfl amp_ ?_; (with_reducible refine (laws_markDiagonalS.calls kj13 (fun k_ => some k_ = (.slice Ao22 t212.length co22 : Value).ownBlock) (.slice Ao22 t212.length co22) t212 1 t231 t232 w _ ?side1 ?side2 A40.out).mono ?_); (case side1 => repeat (first | (with_reducible first | exact HB.out | apply below_alloc | apply pw_below_drewN | apply below_drew1) | exact HB.out)); (case side2 => exact Kd.R_tight rfl HO_10.out); rintro e w49 ⟨rfl, hy0, hb, hkp⟩; refine ⟨_, rfl, ?_⟩; have n0_ := Aside0.mk (Kd.R_mono (ok' := fun k_ => some k_ ≠ (.slice Ao22 t212.length co22 : Value).ownBlock ∧ some k_ ≠ (.slice Ao23 t215.length co23 : Value).ownBlock ∧ some k_ ≠ (v220 : Value).ownBlock ∧ some k_ ≠ (.slice Ao44 t223.length co44 : Value).ownBlock ∧ some k_ ≠ (.slice Ao47 t227.length co47 : Value).ownBlock) (Kd.R_keptB (HO_8.out) hkp (fun k_ hk_ hs_ => (hk_.1.1.1) hs_)) (fun k_ hk_ => ⟨hk_.1.1.1.1, hk_.1.1.1.2.1, hk_.1.1.1.2.2, hk_.1.1.2, hk_.1.2⟩)); have n1_ := Aside0.mk (Kd.R_reok rfl hy0 (fun k_ e_ => HO_10.out.1 k_ e_)); have n2_ := Aside0.mk (Kd.R_mono (ok' := fun k_ => some k_ ≠ (v210 : Value).ownBlock ∧ some k_ ≠ (.slice Ao22 t212.length co22 : Value).ownBlock ∧ some k_ ≠ (v220 : Value).ownBlock ∧ some k_ ≠ (.slice Ao44 t223.length co44 : Value).ownBlock ∧ some k_ ≠ (.slice Ao47 t227.length co47 : Value).ownBlock) (Kd.R_keptB (HO_11.out) hkp (fun k_ hk_ hs_ => (hk_.1.1.2.1) hs_)) (fun k_ hk_ => ⟨hk_.1.1.1.1, hk_.1.1.1.2.1, hk_.1.1.1.2.2, hk_.1.1.2, hk_.1.2⟩)); have n3_ := Aside0.mk (Kd.R_mono (ok' := fun k_ => some k_ ≠ (v210 : Value).ownBlock ∧ some k_ ≠ (.slice Ao22 t212.length co22 : Value).ownBlock ∧ some k_ ≠ (.slice Ao23 t215.length co23 : Value).ownBlock ∧ some k_ ≠ (.slice Ao44 t223.length co44 : Value).ownBlock ∧ some k_ ≠ (.slice Ao47 t227.length co47 : Value).ownBlock) (Kd.R_keptB (HO_12.out) hkp (fun k_ hk_ hs_ => (hk_.1.1.2.1) hs_)) (fun k_ hk_ => ⟨hk_.1.1.1.1, hk_.1.1.1.2.1, hk_.1.1.1.2.2, hk_.1.1.2, hk_.1.2⟩)); have n4_ := Aside0.mk (Kd.R_mono (ok' := fun k_ => some k_ ≠ (v210 : Value).ownBlock ∧ some k_ ≠ (.slice Ao22 t212.length co22 : Value).ownBlock ∧ some k_ ≠ (.slice Ao23 t215.length co23 : Value).ownBlock ∧ some k_ ≠ (v220 : Value).ownBlock ∧ some k_ ≠ (.slice Ao47 t227.length co47 : Value).ownBlock) (Kd.R_keptB (HO225.out) hkp (fun k_ hk_ hs_ => (hk_.1.1.1.2) hs_)) (fun k_ hk_ => ⟨hk_.1.1.1.1.1.2, hk_.1.1.1.1.2, hk_.1.1.1.2, hk_.1.1.2, hk_.1.2⟩)); have n5_ := Aside0.mk (Kd.R_mono (ok' := fun k_ => some k_ ≠ (v210 : Value).ownBlock ∧ some k_ ≠ (.slice Ao22 t212.length co22 : Value).ownBlock ∧ some k_ ≠ (.slice Ao23 t215.length co23 : Value).ownBlock ∧ some k_ ≠ (v220 : Value).ownBlock ∧ some k_ ≠ (.slice Ao44 t223.length co44 : Value).ownBlock) (Kd.R_keptB (HO229.out) hkp (fun k_ hk_ hs_ => (hk_.1.1.1.2) hs_)) (fun k_ hk_ => ⟨hk_.1.1.1.1.1.2, hk_.1.1.1.1.2, hk_.1.1.1.2, hk_.1.1.2, hk_.1.2⟩)); have n6_ := Aside0.mk (hb); clear HO_8; clear HO_10; clear HO_11; clear HO_12; clear HO225; clear HO229; clear HB; have HO_8 := n0_; have HO_10 := n1_; have HO_11 := n2_; have HO_12 := n3_; have HO225 := n4_; have HO229 := n5_; have HB := n6_; clear n0_ n1_ n2_ n3_ n4_ n5_ n6_; (try clear hb); (try clear hkp); (try clear hy0)) | ((with_reducible refine gate_callee (f := 23) rfl ?_); refine goesL_ (some 73) rfl rfl Try.func23 (by kernel_rfl) rfl #[.slice Ao23 t215.length co23, .int .i64 t231] rfl amp_ ?_; (with_reducible refine (laws_markDiagonalS.calls kj13 (fun k_ => some k_ = (.slice Ao23 t215.length co23 : Value).ownBlock) (.slice Ao23 t215.length co23) t215 t231 t233 t234 w _ ?side1 ?side2 A41.out).mono ?_); (case side1 => repeat (first | (with_reducible first | exact HB.out | apply below_alloc | apply pw_below_drewN | apply below_drew1) | exact HB.out)); (case side2 => exact Kd.R_tight rfl HO_11.out); rintro e w50 ⟨rfl, hy0, hb, hkp⟩; refine ⟨_, rfl, ?_⟩; have n0_ := Aside0.mk (Kd.R_mono (ok' := fun k_ => some k_ ≠ (.slice Ao22 t212.length co22 : Value).ownBlock ∧ some k_ ≠ (.slice Ao23 t215.length co23 : Value).ownBlock ∧ some k_ ≠ (v220 : Value).ownBlock ∧ some k_ ≠ (.slice Ao44 t223.length co44 : Value).ownBlock ∧ some k_ ≠ (.slice Ao47 t227.length co47 : Value).ownBlock) (Kd.R_keptB (HO_8.out) hkp (fun k_ hk_ hs_ => (hk_.2.1) hs_)) (fun k_ hk_ => ⟨hk_.1.1, hk_.1.2.1, hk_.1.2.2.1, hk_.1.2.2.2.1, hk_.1.2.2.2.2⟩)); have n1_ := Aside0.mk (Kd.R_mono (ok' := fun k_ => some k_ ≠ (v210 : Value).ownBlock ∧ some k_ ≠ (.slice Ao23 t215.length co23 : Value).ownBlock ∧ some k_ ≠ (v220 : Value).ownBlock ∧ some k_ ≠ (.slice Ao44 t223.length co44 : Value).ownBlock ∧ some k_ ≠ (.slice Ao47 t227.length co47 : Value).ownBlock) (Kd.R_keptB (HO_10.out) hkp (fun k_ hk_ hs_ => (hk_.1.1.2.1) hs_)) (fun k_ hk_ => ⟨hk_.1.1.1.1, hk_.1.1.1.2.1, hk_.1.1.1.2.2, hk_.1.1.2, hk_.1.2⟩)); have n2_ := Aside0.mk (Kd.R_reok rfl hy0 (fun k_ e_ => HO_11.out.1 k_ e_)); have n3_ := Aside0.mk (Kd.R_mono (ok' := fun k_ => some k_ ≠ (v210 : Value).ownBlock ∧ some k_ ≠ (.slice Ao22 t212.length co22 : Value).ownBlock ∧ some k_ ≠ (.slice Ao23 t215.length co23 : Value).ownBlock ∧ some k_ ≠ (.slice Ao44 t223.length co44 : Value).ownBlock ∧ some k_ ≠ (.slice Ao47 t227.length co47 : Value).ownBlock) (Kd.R_keptB (HO_12.out) hkp (fun k_ hk_ hs_ => (hk_.2.2.1) hs_)) (fun k_ hk_ => ⟨hk_.1.1, hk_.1.2.1, hk_.1.2.2.1, hk_.1.2.2.2.1, hk_.1.2.2.2.2⟩)); have n4_ := Aside0.mk (Kd.R_mono (ok' := fun k_ => some k_ ≠ (v210 : Value).ownBlock ∧ some k_ ≠ (.slice Ao22 t212.length co22 : Value).ownBlock ∧ some k_ ≠ (.slice Ao23 t215.length co23 : Value).ownBlock ∧ some k_ ≠ (v220 : Value).ownBlock ∧ some k_ ≠ (.slice Ao47 t227.length co47 : Value).ownBlock) (Kd.R_keptB (HO225.out) hkp (fun k_ hk_ hs_ => (hk_.2.2.1) hs_)) (fun k_ hk_ => ⟨hk_.1.1, hk_.1.2.1, hk_.1.2.2.1, hk_.1.2.2.2.1, hk_.1.2.2.2.2⟩)); have n5_ := Aside0.mk (Kd.R_mono (ok' := fun k_ => some k_ ≠ (v210 : Value).ownBlock ∧ some k_ ≠ (.slice Ao22 t212.length co22 : Value).ownBlock ∧ some k_ ≠ (.slice Ao23 t215.length co23 : Value).ownBlock ∧ some k_ ≠ (v220 : Value).ownBlock ∧ some k_ ≠ (.slice Ao44 t223.length co44 : Value).ownBlock) (Kd.R_keptB (HO229.out) hkp (fun k_ hk_ hs_ => (hk_.2.2.1) hs_)) (fun k_ hk_ => ⟨hk_.1.1, hk_.1.2.1, hk_.1.2.2.1, hk_.1.2.2.2.1, hk_.1.2.2.2.2⟩)); have n6_ := Aside0.mk (hb); clear HO_8; clear HO_10; clear HO_11; clear HO_12; clear HO225; clear HO229; clear HB; have HO_8 := n0_; have HO_10 := n1_; have HO_11 := n2_; have HO_12 := n3_; have HO225 := n4_; have HO229 := n5_; have HB := n6_; clear n0_ n1_ n2_ n3_ n4_ n5_ n6_; (try clear hb); (try clear hkp); (try clear hy0)))
        (try simp only [Act.put, List.setIfInBounds_toArray, List.set_cons_zero, List.set_cons_succ])
        go_cut [86] (fun v86 wc => ∃ (kq : Nat) (x86_41 : Bool), v86 = .bool x86_41 ∧ Aside0 (laws_FnExactCommonDiagonals.j1 kq a0 l1 l2 t208 t209 t218 x86_41 = some r) ∧ Aside0 (kq ≤ kj13) ∧ Aside0 (Kd.R k72 72 wc w.heap.size (fun k_ => some k_ ≠ (v220 : Value).ownBlock) v210 t208) ∧ Aside0 (Kd.R k72 72 wc w.heap.size (fun k_ => some k_ ≠ (v210 : Value).ownBlock) v220 t218) ∧ Aside0 (Below w.heap.size w wc))
        case first =>
         have H := HC42.out
         clear HC42
         by_cases c51 : t233 < 0
         ·rw [if_pos c51] at H
          have c51b0 : decide (t233 < 0) = true := decide_eq_true c51
          clear c51
          (first | rw [c51b0] | (simp only [i64_w, i32_w]; rw [c51b0]) | skip)
          have H' := Aside0.mk H
          clear H
          go_wp2
          go_meet
          case rel => exact ⟨_, (true), (by first | rfl | (simp; done) | (simp [*]; done)), H', ⟨by have := HJ13.out; first | omega | exact Nat.le_refl _⟩, ⟨by (with_reducible repeat (first | apply Kd.R_alloc | apply Kd.R_drewN | apply Kd.R_drew)); exact Kd.R_mono HO_8.out (fun _ hk => hk.2.2.1)⟩, ⟨by (with_reducible repeat (first | apply Kd.R_alloc | apply Kd.R_drewN | apply Kd.R_drew)); exact Kd.R_mono HO_12.out (fun _ hk => hk.1)⟩, ⟨by repeat (first | (with_reducible first | exact HB.out | apply below_alloc | apply pw_below_drewN | apply below_drew1) | exact HB.out)⟩⟩
         ·rw [if_neg c51] at H
          have c51b0 : decide (t233 < 0) = false := decide_eq_false c51
          clear c51
          (first | rw [c51b0] | (simp only [i64_w, i32_w]; rw [c51b0]) | skip)
          replace H := Option.bind_eq_some_iff.mp H
          obtain ⟨t235, A520, H⟩ := H
          replace H : (if t235 = true then (laws_FnExactCommonDiagonals.j1 kj13 a0 l1 l2 t208 t209 t218 (t219 != t209)) else (laws_FnExactCommonDiagonals.j1 kj13 a0 l1 l2 t208 t209 t218 true)) = some r := H
          have A52 := Aside0.mk A520
          clear A520
          by_cases c53 : t235 = true
          ·subst c53
           have H1 : (laws_FnExactCommonDiagonals.j1 kj13 a0 l1 l2 t208 t209 t218 (t219 != t209)) = some r := by rw [if_pos rfl] at H; exact H
           clear H
           have H := H1
           clear H1
           have H' := Aside0.mk H
           clear H
           obtain ⟨Ao54, co54, eo54⟩ := Kd.R_slice HO_12.out
           subst eo54
           obtain ⟨Ao55, co55, eo55⟩ := Kd.R_slice HO_8.out
           subst eo55
           go_wp2_with (first | (go_at_call 20; (with_reducible refine (laws_eqDiagonalS.calls kj13 _ _ t218 _ _ t208 true _ ?side1 ?side2 ?side3 ?side4 A52.out).mono ?_); (case side1 => repeat (first | exact (Kd.R_reads' HO_12.out).2.2 | (with_reducible refine Kd.C_alloc ?_ _) | (with_reducible refine Kd.C_drewN ?_ _) | (with_reducible refine Kd.C_drew ?_))); (case side2 => exact (Kd.R_reads' HO_12.out).2.1); (case side3 => repeat (first | exact (Kd.R_reads' HO_8.out).2.2 | (with_reducible refine Kd.C_alloc ?_ _) | (with_reducible refine Kd.C_drewN ?_ _) | (with_reducible refine Kd.C_drew ?_))); (case side4 => exact (Kd.R_reads' HO_8.out).2.1); rintro e w56 ⟨rfl, hb⟩; have n0_ := Aside0.mk (Kd.R_below (ra_ HO_8.out) hb); have n1_ := Aside0.mk (Kd.R_below (ra_ HO_10.out) hb); have n2_ := Aside0.mk (Kd.R_below (ra_ HO_11.out) hb); have n3_ := Aside0.mk (Kd.R_below (ra_ HO_12.out) hb); have n4_ := Aside0.mk (Kd.R_below (ra_ HO225.out) hb); have n5_ := Aside0.mk (Kd.R_below (ra_ HO229.out) hb); have n6_ := Aside0.mk (below_step blw_ hb); clear HO_8; clear HO_10; clear HO_11; clear HO_12; clear HO225; clear HO229; clear HB; have HO_8 := n0_; have HO_10 := n1_; have HO_11 := n2_; have HO_12 := n3_; have HO225 := n4_; have HO229 := n5_; have HB := n6_; clear n0_ n1_ n2_ n3_ n4_ n5_ n6_; (try clear hb); (try clear hb2); (try clear hk); (try clear hi)))
           go_meet
           case rel => exact ⟨_, ((t219 != t209)), (by first | rfl | (simp; done) | (simp [*]; done)), H', ⟨by have := HJ13.out; first | omega | exact Nat.le_refl _⟩, ⟨by (with_reducible repeat (first | apply Kd.R_alloc | apply Kd.R_drewN | apply Kd.R_drew)); exact Kd.R_mono HO_8.out (fun _ hk => hk.2.2.1)⟩, ⟨by (with_reducible repeat (first | apply Kd.R_alloc | apply Kd.R_drewN | apply Kd.R_drew)); exact Kd.R_mono HO_12.out (fun _ hk => hk.1)⟩, ⟨by repeat (first | (with_reducible first | exact HB.out | apply below_alloc | apply pw_below_drewN | apply below_drew1) | exact HB.out)⟩⟩
          ·replace c53 := Bool.eq_false_iff.mpr c53
           subst c53
           have H1 : (laws_FnExactCommonDiagonals.j1 kj13 a0 l1 l2 t208 t209 t218 true) = some r := by rw [if_neg (show ¬ (false = true) by decide)] at H; exact H
           clear H
           have H := H1
           clear H1
           have H' := Aside0.mk H
           clear H
           obtain ⟨Ao57, co57, eo57⟩ := Kd.R_slice HO_12.out
           subst eo57
           obtain ⟨Ao58, co58, eo58⟩ := Kd.R_slice HO_8.out
           subst eo58
           go_wp2_with (first | (go_at_call 20; (with_reducible refine (laws_eqDiagonalS.calls kj13 _ _ t218 _ _ t208 false _ ?side1 ?side2 ?side3 ?side4 A52.out).mono ?_); (case side1 => repeat (first | exact (Kd.R_reads' HO_12.out).2.2 | (with_reducible refine Kd.C_alloc ?_ _) | (with_reducible refine Kd.C_drewN ?_ _) | (with_reducible refine Kd.C_drew ?_))); (case side2 => exact (Kd.R_reads' HO_12.out).2.1); (case side3 => repeat (first | exact (Kd.R_reads' HO_8.out).2.2 | (with_reducible refine Kd.C_alloc ?_ _) | (with_reducible refine Kd.C_drewN ?_ _) | (with_reducible refine Kd.C_drew ?_))); (case side4 => exact (Kd.R_reads' HO_8.out).2.1); rintro e w59 ⟨rfl, hb⟩; have n0_ := Aside0.mk (Kd.R_below (ra_ HO_8.out) hb); have n1_ := Aside0.mk (Kd.R_below (ra_ HO_10.out) hb); have n2_ := Aside0.mk (Kd.R_below (ra_ HO_11.out) hb); have n3_ := Aside0.mk (Kd.R_below (ra_ HO_12.out) hb); have n4_ := Aside0.mk (Kd.R_below (ra_ HO225.out) hb); have n5_ := Aside0.mk (Kd.R_below (ra_ HO229.out) hb); have n6_ := Aside0.mk (below_step blw_ hb); clear HO_8; clear HO_10; clear HO_11; clear HO_12; clear HO225; clear HO229; clear HB; have HO_8 := n0_; have HO_10 := n1_; have HO_11 := n2_; have HO_12 := n3_; have HO225 := n4_; have HO229 := n5_; have HB := n6_; clear n0_ n1_ n2_ n3_ n4_ n5_ n6_; (try clear hb); (try clear hb2); (try clear hk); (try clear hi)))
           go_meet
           case rel => exact ⟨_, (true), (by first | rfl | (simp; done) | (simp [*]; done)), H', ⟨by have := HJ13.out; first | omega | exact Nat.le_refl _⟩, ⟨by (with_reducible repeat (first | apply Kd.R_alloc | apply Kd.R_drewN | apply Kd.R_drew)); exact Kd.R_mono HO_8.out (fun _ hk => hk.2.2.1)⟩, ⟨by (with_reducible repeat (first | apply Kd.R_alloc | apply Kd.R_drewN | apply Kd.R_drew)); exact Kd.R_mono HO_12.out (fun _ hk => hk.1)⟩, ⟨by repeat (first | (with_reducible first | exact HB.out | apply below_alloc | apply pw_below_drewN | apply below_drew1) | exact HB.out)⟩⟩
        case rest =>
         clear HC42
         try clear c1
         try clear c2
         try clear p2
         try clear c3
         try clear c4
         try clear c5
         try clear c5b0
         try clear c7
         try clear c7b0
         try clear c10
         try clear c20
         try clear c23
         try clear c26
         try clear c28
         try clear c30
         try clear c33
         try clear c36
         try clear c39
         try clear c40
         try clear c51
         try clear c51b0
         try clear c53
         try clear p2
         obtain ⟨kq, x86_41, rfl, HA, HJ41, HO_8, HO_12, HB⟩ := hcut
         cases kq with
         | zero => exact absurd HA.out (by simp [laws_FnExactCommonDiagonals.j1])
         | succ kj41 =>
          have H := HA.out
          clear HA
          simp only [laws_FnExactCommonDiagonals.j1] at H
          by_cases c60 : x86_41 = true
          ·subst c60
           have H1 : (some false) = some r := by rw [if_pos rfl] at H; exact H
           clear H
           have H := H1
           clear H1
           exact absurd (H.trans (congrArg some htrue.out)) (by decide)
          ·replace c60 := Bool.eq_false_iff.mpr c60
           subst c60
           have H1 : ((laws_markDiagonalS.f kj41 t218 1).bind fun bt236 => ((laws_heldDiagonalS.f kj41 bt236.2 1).bind fun t238 => (if t238 < 0 then (some false) else (if t238 = bt236.1 then ((laws_toDiagonalS.f kj41 l1).bind fun t239 => ((laws_toDiagonalS.f kj41 l2).bind fun t242 => ((impl_CommonDiagonals.f kj41 a0 t239 t242).bind fun bt245 => ((laws_eqDiagonalS.f kj41 bt245.1 t208).bind fun t249 => (if t249 = true then (laws_FnExactCommonDiagonals.j2 kj41 bt236.2 bt236.1 (bt245.2 != t209)) else (laws_FnExactCommonDiagonals.j2 kj41 bt236.2 bt236.1 true)))))) else (some false))))) = some r := by rw [if_neg (show ¬ (false = true) by decide)] at H; exact H
           clear H
           have H := H1
           clear H1
           replace H := Option.bind_eq_some_iff.mp H
           obtain ⟨⟨t236, t237⟩, A610, H⟩ := H
           replace H : ((laws_heldDiagonalS.f kj41 t237 1).bind fun t238 => (if t238 < 0 then (some false) else (if t238 = t236 then ((laws_toDiagonalS.f kj41 l1).bind fun t239 => ((laws_toDiagonalS.f kj41 l2).bind fun t242 => ((impl_CommonDiagonals.f kj41 a0 t239 t242).bind fun bt245 => ((laws_eqDiagonalS.f kj41 bt245.1 t208).bind fun t249 => (if t249 = true then (laws_FnExactCommonDiagonals.j2 kj41 t237 t236 (bt245.2 != t209)) else (laws_FnExactCommonDiagonals.j2 kj41 t237 t236 true)))))) else (some false)))) = some r := H
           have A61 := Aside0.mk A610
           clear A610
           replace H := Option.bind_eq_some_iff.mp H
           obtain ⟨t238, A620, H⟩ := H
           replace H : (if t238 < 0 then (some false) else (if t238 = t236 then ((laws_toDiagonalS.f kj41 l1).bind fun t239 => ((laws_toDiagonalS.f kj41 l2).bind fun t242 => ((impl_CommonDiagonals.f kj41 a0 t239 t242).bind fun bt245 => ((laws_eqDiagonalS.f kj41 bt245.1 t208).bind fun t249 => (if t249 = true then (laws_FnExactCommonDiagonals.j2 kj41 t237 t236 (bt245.2 != t209)) else (laws_FnExactCommonDiagonals.j2 kj41 t237 t236 true)))))) else (some false))) = some r := H
           have A62 := Aside0.mk A620
           clear A620
           by_cases c63 : t238 < 0
           ·rw [if_pos c63] at H
            have c63b0 : decide (t238 < 0) = true := decide_eq_true c63
            clear c63
            exact absurd (H.trans (congrArg some htrue.out)) (by decide)
           ·rw [if_neg c63] at H
            have c63b0 : decide (t238 < 0) = false := decide_eq_false c63
            clear c63
            by_cases c64 : t238 = t236
            ·rw [if_pos c64] at H
             have c64b0 : (t238 == t236) = true := beq_iff_eq.mpr c64
             have c64b1 : (t238 != t236) = false := bne_eq_false_iff_eq.mpr c64
             clear c64
             replace H := Option.bind_eq_some_iff.mp H
             obtain ⟨t239, A650, H⟩ := H
             replace H : ((laws_toDiagonalS.f kj41 l2).bind fun t242 => ((impl_CommonDiagonals.f kj41 a0 t239 t242).bind fun bt245 => ((laws_eqDiagonalS.f kj41 bt245.1 t208).bind fun t249 => (if t249 = true then (laws_FnExactCommonDiagonals.j2 kj41 t237 t236 (bt245.2 != t209)) else (laws_FnExactCommonDiagonals.j2 kj41 t237 t236 true))))) = some r := H
             have A65 := Aside0.mk A650
             clear A650
             replace H := Option.bind_eq_some_iff.mp H
             obtain ⟨t242, A660, H⟩ := H
             replace H : ((impl_CommonDiagonals.f kj41 a0 t239 t242).bind fun bt245 => ((laws_eqDiagonalS.f kj41 bt245.1 t208).bind fun t249 => (if t249 = true then (laws_FnExactCommonDiagonals.j2 kj41 t237 t236 (bt245.2 != t209)) else (laws_FnExactCommonDiagonals.j2 kj41 t237 t236 true)))) = some r := H
             have A66 := Aside0.mk A660
             clear A660
             replace H := Option.bind_eq_some_iff.mp H
             obtain ⟨⟨t245, t246⟩, A670, H⟩ := H
             replace H : ((laws_eqDiagonalS.f kj41 t245 t208).bind fun t249 => (if t249 = true then (laws_FnExactCommonDiagonals.j2 kj41 t237 t236 (t246 != t209)) else (laws_FnExactCommonDiagonals.j2 kj41 t237 t236 true))) = some r := H
             have A67 := Aside0.mk A670
             clear A670
             have HC68 := Aside0.mk H
             clear H
             obtain ⟨Ao69, co69, eo69⟩ := Kd.R_slice HO_12.out
             subst eo69
             go_upto_region 32 with (first | ((with_reducible refine gate_callee (f := 23) rfl ?_); refine goesL_ (some 89) rfl rfl Try.func23 (by kernel_rfl) rfl #[.slice Ao69 t218.length co69, .int .i64 1] rfl amp_ ?_; (with_reducible refine (laws_markDiagonalS.calls kj41 (fun k_ => some k_ = (.slice Ao69 t218.length co69 : Value).ownBlock) (.slice Ao69 t218.length co69) t218 1 t236 t237 w _ ?side1 ?side2 A61.out).mono ?_); (case side1 => repeat (first | (with_reducible first | exact HB.out | apply below_alloc | apply pw_below_drewN | apply below_drew1) | exact HB.out)); (case side2 => exact Kd.R_tight rfl HO_12.out); rintro e w70 ⟨rfl, hy0, hb, hkp⟩; refine ⟨_, rfl, ?_⟩; have n0_ := Aside0.mk (Kd.R_mono (ok' := fun k_ => some k_ ≠ (.slice Ao69 t218.length co69 : Value).ownBlock) (Kd.R_keptB (HO_8.out) hkp (fun k_ hk_ hs_ => (hk_) hs_)) (fun k_ hk_ => hk_.1)); have n1_ := Aside0.mk (Kd.R_reok rfl hy0 (fun k_ e_ => HO_12.out.1 k_ e_)); have n2_ := Aside0.mk (hb); clear HO_8; clear HO_12; clear HB; have HO_8 := n0_; have HO_12 := n1_; have HB := n2_; clear n0_ n1_ n2_; (try clear hb); (try clear hkp); (try clear hy0)) | ((with_reducible refine gate_callee (f := 24) rfl ?_); refine goesL_ (some 92) rfl rfl Try.func24 (by kernel_rfl) rfl #[.slice Ao69 t237.length co69, .int .i64 1] rfl (by (try simp only [List.map_toArray, List.map_cons, List.map_nil]); first | done | (rw [show t237.length = t218.length from (Kd.R_reads' HO_12.out).1.symm] <;> rfl) | rfl | (simp only [List.length_drop, List.length_take]; rfl)) ?_; (with_reducible refine (laws_heldDiagonalS.calls kj41 _ _ t237 1 t238 _ ?side1 ?side2 A62.out).mono ?_); (case side1 => repeat (first | exact (Kd.R_reads' HO_12.out).2.2 | (with_reducible refine Kd.C_alloc ?_ _) | (with_reducible refine Kd.C_drewN ?_ _) | (with_reducible refine Kd.C_drew ?_))); (case side2 => rw [show t237.length = t218.length from (Kd.R_reads' HO_12.out).1.symm]; exact (Kd.R_reads' HO_12.out).2.1); rintro e w' ⟨rfl, ⟨nd, rfl⟩⟩; refine ⟨_, rfl, ?_⟩) | ((with_reducible refine gate_callee (f := 30) rfl ?_); refine goesL_ (some 101) rfl rfl Try.func30 (by kernel_rfl) rfl #[.slice A1 l1.length c1] rfl amp_ ?_; (with_reducible refine (laws_toDiagonalS.calls kj41 _ _ l1 t239 _ ?side1 ?side2 A65.out).mono ?_); (case side1 => repeat (first | exact (Kd.C_below HR1.out blw_) | (with_reducible refine Kd.C_alloc ?_ _) | (with_reducible refine Kd.C_drewN ?_ _) | (with_reducible refine Kd.C_drew ?_))); (case side2 => exact HC1.out); rintro e w71 ⟨v240, rfl, ho0, hb⟩; refine ⟨_, rfl, ?_⟩; have n0_ := Aside0.mk (Kd.R_elder' (ra_ HO_8.out) (Kd.R_base ho0) hb); have n1_ := Aside0.mk (Kd.R_elder' (ra_ HO_12.out) (Kd.R_base ho0) hb); have n2_ := Aside0.mk (Kd.R_lower (Kd.R_new' (Kd.R_new' ho0 (Kd.R_lt (ra_ HO_8.out))) (Kd.R_lt (ra_ HO_12.out))) (below_size blw_)); have n3_ := Aside0.mk (below_step blw_ hb); clear HO_8; clear HO_12; clear HB; have HO_8 := n0_; have HO_12 := n1_; have HO241 := n2_; have HB := n3_; clear n0_ n1_ n2_ n3_; (try clear hb); (try clear hb2); (try clear hk); (try clear hi); (try clear ho0)) | ((with_reducible refine gate_callee (f := 30) rfl ?_); refine goesL_ (some 103) rfl rfl Try.func30 (by kernel_rfl) rfl #[.slice A2 l2.length c2] rfl amp_ ?_; (with_reducible refine (laws_toDiagonalS.calls kj41 _ _ l2 t242 _ ?side1 ?side2 A66.out).mono ?_); (case side1 => repeat (first | exact (Kd.C_below HR2.out HB.out) | (with_reducible refine Kd.C_alloc ?_ _) | (with_reducible refine Kd.C_drewN ?_ _) | (with_reducible refine Kd.C_drew ?_))); (case side2 => exact HC2.out); rintro e w72 ⟨v243, rfl, ho0, hb⟩; refine ⟨_, rfl, ?_⟩; have n0_ := Aside0.mk (Kd.R_elder' (ra_ HO_8.out) (Kd.R_base ho0) hb); have n1_ := Aside0.mk (Kd.R_elder' (ra_ HO_12.out) (Kd.R_base ho0) hb); have n2_ := Aside0.mk (Kd.R_elder' (ra_ HO241.out) (Kd.R_base ho0) hb); have n3_ := Aside0.mk (Kd.R_lower (Kd.R_new' (Kd.R_new' (Kd.R_new' ho0 (Kd.R_lt (ra_ HO_8.out))) (Kd.R_lt (ra_ HO_12.out))) (Kd.R_lt (ra_ HO241.out))) (below_size blw_)); have n4_ := Aside0.mk (below_step blw_ hb); clear HO_8; clear HO_12; clear HO241; clear HB; have HO_8 := n0_; have HO_12 := n1_; have HO241 := n2_; have HO244 := n3_; have HB := n4_; clear n0_ n1_ n2_ n3_ n4_; (try clear hb); (try clear hb2); (try clear hk); (try clear hi); (try clear ho0); obtain ⟨Ao73, co73, eo73⟩ := Kd.R_slice HO241.out; subst eo73; obtain ⟨Ao74, co74, eo74⟩ := Kd.R_slice HO244.out; subst eo74) | ((with_reducible refine gate_callee (f := 40) rfl ?_); refine goesL_ (some 104) rfl rfl Try.func40 (by kernel_rfl) rfl #[.int .i64 a0, .slice Ao73 t239.length co73, .slice Ao74 t242.length co74] rfl amp_ ?_; (with_reducible refine (impl_CommonDiagonals.calls kj41 a0 _ _ t239 _ _ t242 t245 t246 _ ?side1 ?side2 ?side3 ?side4 A67.out).mono ?_); (case side1 => repeat (first | exact (Kd.R_reads' HO241.out).2.2 | (with_reducible refine Kd.C_alloc ?_ _) | (with_reducible refine Kd.C_drewN ?_ _) | (with_reducible refine Kd.C_drew ?_))); (case side2 => exact (Kd.R_reads' HO241.out).2.1); (case side3 => repeat (first | exact (Kd.R_reads' HO244.out).2.2 | (with_reducible refine Kd.C_alloc ?_ _) | (with_reducible refine Kd.C_drewN ?_ _) | (with_reducible refine Kd.C_drew ?_))); (case side4 => exact (Kd.R_reads' HO244.out).2.1); rintro e w75 ⟨v247, rfl, ho0, hb⟩; refine ⟨_, rfl, ?_⟩; have n0_ := Aside0.mk (Kd.R_elder' (ra_ HO_8.out) (Kd.R_base ho0) hb); have n1_ := Aside0.mk (Kd.R_elder' (ra_ HO_12.out) (Kd.R_base ho0) hb); have n2_ := Aside0.mk (Kd.R_elder' (ra_ HO241.out) (Kd.R_base ho0) hb); have n3_ := Aside0.mk (Kd.R_elder' (ra_ HO244.out) (Kd.R_base ho0) hb); have n4_ := Aside0.mk (Kd.R_lower (Kd.R_new' (Kd.R_new' (Kd.R_new' (Kd.R_new' ho0 (Kd.R_lt (ra_ HO_8.out))) (Kd.R_lt (ra_ HO_12.out))) (Kd.R_lt (ra_ HO241.out))) (Kd.R_lt (ra_ HO244.out))) (below_size blw_)); have n5_ := Aside0.mk (below_step blw_ hb); clear HO_8; clear HO_12; clear HO241; clear HO244; clear HB; have HO_8 := n0_; have HO_12 := n1_; have HO241 := n2_; have HO244 := n3_; have HO248 := n4_; have HB := n5_; clear n0_ n1_ n2_ n3_ n4_ n5_; (try clear hb); (try clear hb2); (try clear hk); (try clear hi); (try clear ho0)))
             (try simp only [Act.put, List.setIfInBounds_toArray, List.set_cons_zero, List.set_cons_succ])
             go_cut [115] (fun v115 wc => ∃ (kq : Nat) (x115_67 : Bool), v115 = .bool x115_67 ∧ Aside0 (laws_FnExactCommonDiagonals.j2 kq t237 t236 x115_67 = some r) ∧ Aside0 (kq ≤ kj41) ∧ Aside0 (Kd.R k72 72 wc w.heap.size (fun _ => True) (.slice Ao69 t218.length co69) t237) ∧ Aside0 (Below w.heap.size w wc))
             case first =>
              have H := HC68.out
              clear HC68
              replace H := Option.bind_eq_some_iff.mp H
              obtain ⟨t249, A760, H⟩ := H
              replace H : (if t249 = true then (laws_FnExactCommonDiagonals.j2 kj41 t237 t236 (t246 != t209)) else (laws_FnExactCommonDiagonals.j2 kj41 t237 t236 true)) = some r := H
              have A76 := Aside0.mk A760
              clear A760
              by_cases c77 : t249 = true
              ·subst c77
               have H1 : (laws_FnExactCommonDiagonals.j2 kj41 t237 t236 (t246 != t209)) = some r := by rw [if_pos rfl] at H; exact H
               clear H
               have H := H1
               clear H1
               have H' := Aside0.mk H
               clear H
               obtain ⟨Ao78, co78, eo78⟩ := Kd.R_slice HO248.out
               subst eo78
               obtain ⟨Ao79, co79, eo79⟩ := Kd.R_slice HO_8.out
               subst eo79
               go_wp2_with (first | ((with_reducible refine gate_callee (f := 20) rfl ?_); refine goesL_ (some 109) rfl rfl Try.func20 (by kernel_rfl) rfl #[.slice Ao78 t245.length co78, .slice Ao79 t208.length co79] rfl amp_ ?_; (with_reducible refine (laws_eqDiagonalS.calls kj41 _ _ t245 _ _ t208 true _ ?side1 ?side2 ?side3 ?side4 A76.out).mono ?_); (case side1 => repeat (first | exact (Kd.R_reads' HO248.out).2.2 | (with_reducible refine Kd.C_alloc ?_ _) | (with_reducible refine Kd.C_drewN ?_ _) | (with_reducible refine Kd.C_drew ?_))); (case side2 => exact (Kd.R_reads' HO248.out).2.1); (case side3 => repeat (first | exact (Kd.R_reads' HO_8.out).2.2 | (with_reducible refine Kd.C_alloc ?_ _) | (with_reducible refine Kd.C_drewN ?_ _) | (with_reducible refine Kd.C_drew ?_))); (case side4 => exact (Kd.R_reads' HO_8.out).2.1); rintro e w80 ⟨rfl, hb⟩; refine ⟨_, rfl, ?_⟩; have n0_ := Aside0.mk (Kd.R_below (ra_ HO_8.out) hb); have n1_ := Aside0.mk (Kd.R_below (ra_ HO_12.out) hb); have n2_ := Aside0.mk (Kd.R_below (ra_ HO241.out) hb); have n3_ := Aside0.mk (Kd.R_below (ra_ HO244.out) hb); have n4_ := Aside0.mk (Kd.R_below (ra_ HO248.out) hb); have n5_ := Aside0.mk (below_step blw_ hb); clear HO_8; clear HO_12; clear HO241; clear HO244; clear HO248; clear HB; have HO_8 := n0_; have HO_12 := n1_; have HO241 := n2_; have HO244 := n3_; have HO248 := n4_; have HB := n5_; clear n0_ n1_ n2_ n3_ n4_ n5_; (try clear hb); (try clear hb2); (try clear hk); (try clear hi)))
               go_meet
               case rel => exact ⟨_, ((t246 != t209)), (by first | rfl | (simp; done) | (simp [*]; done)), H', ⟨by have := HJ13.out; have := HJ41.out; first | omega | exact Nat.le_refl _⟩, ⟨by (with_reducible repeat (first | apply Kd.R_alloc | apply Kd.R_drewN | apply Kd.R_drew)); exact Kd.R_mono HO_12.out (fun _ hk => trivial)⟩, ⟨by repeat (first | (with_reducible first | exact HB.out | apply below_alloc | apply pw_below_drewN | apply below_drew1) | exact HB.out)⟩⟩
              ·replace c77 := Bool.eq_false_iff.mpr c77
               subst c77
               have H1 : (laws_FnExactCommonDiagonals.j2 kj41 t237 t236 true) = some r := by rw [if_neg (show ¬ (false = true) by decide)] at H; exact H
               clear H
               have H := H1
               clear H1
               have H' := Aside0.mk H
               clear H
               obtain ⟨Ao81, co81, eo81⟩ := Kd.R_slice HO248.out
               subst eo81
               obtain ⟨Ao82, co82, eo82⟩ := Kd.R_slice HO_8.out
               subst eo82
               go_wp2_with (first | ((with_reducible refine gate_callee (f := 20) rfl ?_); refine goesL_ (some 109) rfl rfl Try.func20 (by kernel_rfl) rfl #[.slice Ao81 t245.length co81, .slice Ao82 t208.length co82] rfl amp_ ?_; (with_reducible refine (laws_eqDiagonalS.calls kj41 _ _ t245 _ _ t208 false _ ?side1 ?side2 ?side3 ?side4 A76.out).mono ?_); (case side1 => repeat (first | exact (Kd.R_reads' HO248.out).2.2 | (with_reducible refine Kd.C_alloc ?_ _) | (with_reducible refine Kd.C_drewN ?_ _) | (with_reducible refine Kd.C_drew ?_))); (case side2 => exact (Kd.R_reads' HO248.out).2.1); (case side3 => repeat (first | exact (Kd.R_reads' HO_8.out).2.2 | (with_reducible refine Kd.C_alloc ?_ _) | (with_reducible refine Kd.C_drewN ?_ _) | (with_reducible refine Kd.C_drew ?_))); (case side4 => exact (Kd.R_reads' HO_8.out).2.1); rintro e w83 ⟨rfl, hb⟩; refine ⟨_, rfl, ?_⟩; have n0_ := Aside0.mk (Kd.R_below (ra_ HO_8.out) hb); have n1_ := Aside0.mk (Kd.R_below (ra_ HO_12.out) hb); have n2_ := Aside0.mk (Kd.R_below (ra_ HO241.out) hb); have n3_ := Aside0.mk (Kd.R_below (ra_ HO244.out) hb); have n4_ := Aside0.mk (Kd.R_below (ra_ HO248.out) hb); have n5_ := Aside0.mk (below_step blw_ hb); clear HO_8; clear HO_12; clear HO241; clear HO244; clear HO248; clear HB; have HO_8 := n0_; have HO_12 := n1_; have HO241 := n2_; have HO244 := n3_; have HO248 := n4_; have HB := n5_; clear n0_ n1_ n2_ n3_ n4_ n5_; (try clear hb); (try clear hb2); (try clear hk); (try clear hi)))
               go_meet
               case rel => exact ⟨_, (true), (by first | rfl | (simp; done) | (simp [*]; done)), H', ⟨by have := HJ13.out; have := HJ41.out; first | omega | exact Nat.le_refl _⟩, ⟨by (with_reducible repeat (first | apply Kd.R_alloc | apply Kd.R_drewN | apply Kd.R_drew)); exact Kd.R_mono HO_12.out (fun _ hk => trivial)⟩, ⟨by repeat (first | (with_reducible first | exact HB.out | apply below_alloc | apply pw_below_drewN | apply below_drew1) | exact HB.out)⟩⟩
             case rest =>
              clear HC68
              try clear c1
              try clear c2
              try clear p2
              try clear c3
              try clear c4
              try clear c5
              try clear c5b0
              try clear c6
              try clear c7
              try clear c7b0
              try clear c10
              try clear c20
              try clear c23
              try clear c24
              try clear c26
              try clear c28
              try clear c30
              try clear c33
              try clear c36
              try clear c39
              try clear c40
              try clear c51
              try clear c51b0
              try clear c53
              try clear c60
              try clear c63
              try clear c63b0
              try clear c64
              try clear c64b0
              try clear c64b1
              try clear c77
              try clear p2
              obtain ⟨kq, x115_67, rfl, HA, HJ67, HO_12, HB⟩ := hcut
              have hl12_67 := (Kd.R_reads' HO_12.out).1
              rw [hl12_67] at HO_12
              (try simp only [hl12_67])
              cases kq with
              | zero => exact absurd HA.out (by simp [laws_FnExactCommonDiagonals.j2])
              | succ kj67 =>
               have H := HA.out
               clear HA
               simp only [laws_FnExactCommonDiagonals.j2] at H
               by_cases c84 : x115_67 = true
               ·subst c84
                have H1 : (some false) = some r := by rw [if_pos rfl] at H; exact H
                clear H
                have H := H1
                clear H1
                exact absurd (H.trans (congrArg some htrue.out)) (by decide)
               ·replace c84 := Bool.eq_false_iff.mpr c84
                subst c84
                have H1 : ((laws_heldDiagonalS.f kj67 t237 1).bind fun t250 => (if t250 < 0 then (some false) else (if t250 = t236 then (some true) else (some false)))) = some r := by rw [if_neg (show ¬ (false = true) by decide)] at H; exact H
                clear H
                have H := H1
                clear H1
                replace H := Option.bind_eq_some_iff.mp H
                obtain ⟨t250, A850, H⟩ := H
                replace H : (if t250 < 0 then (some false) else (if t250 = t236 then (some true) else (some false))) = some r := H
                have A85 := Aside0.mk A850
                clear A850
                by_cases c86 : t250 < 0
                ·rw [if_pos c86] at H
                 have c86b0 : decide (t250 < 0) = true := decide_eq_true c86
                 clear c86
                 exact absurd (H.trans (congrArg some htrue.out)) (by decide)
                ·rw [if_neg c86] at H
                 have c86b0 : decide (t250 < 0) = false := decide_eq_false c86
                 clear c86
                 by_cases c87 : t250 = t236
                 ·rw [if_pos c87] at H
                  have c87b0 : (t250 == t236) = true := beq_iff_eq.mpr c87
                  have c87b1 : (t250 != t236) = false := bne_eq_false_iff_eq.mpr c87
                  clear c87
                  obtain rfl := Option.some.inj H
                  go_wp2_with (first | ((with_reducible refine gate_callee (f := 24) rfl ?_); refine goesL_ (some 118) rfl rfl Try.func24 (by kernel_rfl) rfl #[.slice Ao69 t237.length co69, .int .i64 1] rfl amp_ ?_; (with_reducible refine (laws_heldDiagonalS.calls kj67 _ _ t237 1 t250 _ ?side1 ?side2 A85.out).mono ?_); (case side1 => repeat (first | exact (Kd.R_reads' HO_12.out).2.2 | (with_reducible refine Kd.C_alloc ?_ _) | (with_reducible refine Kd.C_drewN ?_ _) | (with_reducible refine Kd.C_drew ?_))); (case side2 => exact (Kd.R_reads' HO_12.out).2.1); rintro e w' ⟨rfl, ⟨nd, rfl⟩⟩; refine ⟨_, rfl, ?_⟩))
                  go_ret
                  exact ⟨by first | rfl | (simp [errW_none, errW_some] <;> rfl) | (simp [*, errW_none, errW_some] <;> rfl), by repeat (first | (with_reducible first | exact HB.out | apply below_alloc | apply pw_below_drewN | apply below_drew1) | exact HB.out)⟩
                 ·rw [if_neg c87] at H
                  have c87b0 : (t250 == t236) = false := beq_eq_false_iff_ne.mpr c87
                  have c87b1 : (t250 != t236) = true := bne_iff_ne.mpr c87
                  exact absurd (H.trans (congrArg some htrue.out)) (by decide)
            ·rw [if_neg c64] at H
             have c64b0 : (t238 == t236) = false := beq_eq_false_iff_ne.mpr c64
             have c64b1 : (t238 != t236) = true := bne_iff_ne.mpr c64
             exact absurd (H.trans (congrArg some htrue.out)) (by decide)
       ·replace c39 := Bool.eq_false_iff.mpr c39
        subst c39
        have H1 : (some false) = some r := by rw [if_neg (show ¬ (false = true) by decide)] at H; exact H
        clear H
        have H := H1
        clear H1
        exact absurd (H.trans (congrArg some htrue.out)) (by decide)
      ·replace c36 := Bool.eq_false_iff.mpr c36
       subst c36
       have H1 : (some false) = some r := by rw [if_neg (show ¬ (false = true) by decide)] at H; exact H
       clear H
       have H := H1
       clear H1
       exact absurd (H.trans (congrArg some htrue.out)) (by decide)

end Go.Proofs.Ytnikefebkcminaa.PFnExactCommonDiagonals
