-- WRITTEN BY A PROGRAM OF THIS WORK (wip/tools/ppatch.py) for this claim.
import Derived.Test.YtgblginphicacaaDoorPFnExactFarthestByFlipsx0
import Derived.Test.YtgblginphicacaaDoorPFnExactFarthestByFlipsx2
import Derived.Test.YtgblginphicacaaDoorPFnExactFarthestByFlipsx11
import Derived.Test.YtgblginphicacaaDoorPFnExactFarthestByFlipsx19
import Derived.Test.YtgblginphicacaaDoorPFnExactFarthestByFlipsx20
namespace Go.Proofs.YtgblginphicacaaDoor.PFnExactFarthestByFlips
open Go.RowKit Go.Proofs.YtgblginphicacaaDoorW.PrintWords Go.Proofs.YtgblginphicacaaDoorW.PrintLast Go.Proofs.YtgblginphicacaaDoorW.PrintMore
attribute [local go_sem] max2_int min2_int max_two min_two max_three min_three max_four min_four   -- for this text's walks alone
set_option linter.unusedVariables false
set_option linter.unusedSimpArgs false

/-! ### impl_isNear: function 37 -/
def impl_isNear.f (k : Nat) (a0 : Int) (l1 : List (S49)) : Option (Bool) := (impl_IsTriangulation.f k a0 l1).bind fun t369 => (if t369 = true then (some (decide (a0 ≤ 8))) else (some false))
theorem impl_isNear.mono : ∀ a0 a1 k, LeO (impl_isNear.f k a0 a1) (impl_isNear.f (k + 1) a0 a1) := by
 intro a0 a1 k
 unfold impl_isNear.f
 repeat' first
   | (with_reducible exact impl_IsTriangulation.mono _ _ _)
   | (with_reducible exact LeO.refl _)
   | (with_reducible exact LeO.none _)
   | (with_reducible refine LeO.ite ?_ ?_)
   | (with_reducible refine LeO.bind ?_ (fun _ => ?_))
   | exact impl_IsTriangulation.mono _ _ _
   | exact LeO.none _
   | refine LeO.ite ?_ ?_
   | refine LeO.bind ?_ (fun _ => ?_)
set_option maxHeartbeats 8000000 in
set_option maxRecDepth 100000 in
theorem impl_isNear.calls (k : Nat) (a0 : Int) (A1 : Option Addr) (c1 : Nat) (l1 : List (S49)) (r : Bool) (w : World) (hr1 : Kd.C k49 w A1 l1.length l1) (hc1 : l1.length ≤ c1) (h : impl_isNear.f k a0 l1 = some r) :
  Calls Tryd.prog 37 #[.int .i64 a0, .slice A1 l1.length c1] w fun e w' => e = .returned (.bool r) ∧ Below w.heap.size w w' := by
 have HR1 := Aside0.mk hr1
 have HC1 := Aside0.mk hc1
 clear hr1 hc1
 have HB := Aside0.mk (Below.refl w.heap.size w)
 have H : ((impl_IsTriangulation.f k a0 l1).bind fun t369 => (if t369 = true then (some (decide (a0 ≤ 8))) else (some false))) = some r := h
 clear h
 replace H := Option.bind_eq_some_iff.mp H
 obtain ⟨t369, A30, H⟩ := H
 replace H : (if t369 = true then (some (decide (a0 ≤ 8))) else (some false)) = some r := H
 have A3 := Aside0.mk A30
 clear A30
 by_cases c4 : t369 = true
 ·subst c4
  replace H : (some (decide (a0 ≤ 8))) = some r := by rw [if_pos rfl] at H; exact H
  obtain rfl := Option.some.inj H
  go_enter Tryd.func37, Tryd.ntmps37
  go_wp2_with (first | ((with_reducible refine gate_callee (f := 49) rfl ?_); refine goesL_ (some 7) rfl rfl Tryd.func49 (by kernel_rfl) rfl #[.int .i64 a0, .slice A1 l1.length c1] rfl amp_ ?_; (with_reducible refine (impl_IsTriangulation.calls k a0 _ _ l1 true _ ?side1 ?side2 A3.out).mono ?_); (case side1 => exact cd_ HR1.out); (case side2 => exact HC1.out); rintro e w5 ⟨rfl, hb⟩; refine ⟨_, rfl, ?_⟩; replace HB := Aside0.mk (below_step blw_ hb); (try clear hb); (try clear hb2); (try clear hk); (try clear hi)))
  go_ret
  exact er_
 ·replace c4 := Bool.eq_false_iff.mpr c4
  subst c4
  replace H : (some false) = some r := by rw [if_neg (show ¬ (false = true) by decide)] at H; exact H
  obtain rfl := Option.some.inj H
  go_enter Tryd.func37, Tryd.ntmps37
  go_wp2_with (first | ((with_reducible refine gate_callee (f := 49) rfl ?_); refine goesL_ (some 7) rfl rfl Tryd.func49 (by kernel_rfl) rfl #[.int .i64 a0, .slice A1 l1.length c1] rfl amp_ ?_; (with_reducible refine (impl_IsTriangulation.calls k a0 _ _ l1 false _ ?side1 ?side2 A3.out).mono ?_); (case side1 => exact cd_ HR1.out); (case side2 => exact HC1.out); rintro e w6 ⟨rfl, hb⟩; refine ⟨_, rfl, ?_⟩; replace HB := Aside0.mk (below_step blw_ hb); (try clear hb); (try clear hb2); (try clear hk); (try clear hi)))
  go_ret
  exact er_

/-! ### impl_FarthestByFlips: function 19 -/
def impl_FarthestByFlips.f (k : Nat) (a0 : Int) (l1 : List (S49)) : Option ((List (S49)) × Int × Bool) := (impl_isNear.f k a0 l1).bind fun t370 => (if t370 = true then ((impl_farthest.f k a0 l1).bind fun bt371 => (some (bt371.1, bt371.2, true))) else (some (([] : List (S49)), 0, false)))
theorem impl_FarthestByFlips.mono : ∀ a0 a1 k, LeO (impl_FarthestByFlips.f k a0 a1) (impl_FarthestByFlips.f (k + 1) a0 a1) := by
 intro a0 a1 k
 unfold impl_FarthestByFlips.f
 repeat' first
   | (with_reducible exact impl_farthest.mono _ _ _)
   | (with_reducible exact impl_isNear.mono _ _ _)
   | (with_reducible exact LeO.refl _)
   | (with_reducible exact LeO.none _)
   | (with_reducible refine LeO.ite ?_ ?_)
   | (with_reducible refine LeO.bind ?_ (fun _ => ?_))
   | exact impl_farthest.mono _ _ _
   | exact impl_isNear.mono _ _ _
   | exact LeO.none _
   | refine LeO.ite ?_ ?_
   | refine LeO.bind ?_ (fun _ => ?_)
set_option maxHeartbeats 8000000 in
set_option maxRecDepth 100000 in
theorem impl_FarthestByFlips.calls (k : Nat) (a0 : Int) (A1 : Option Addr) (c1 : Nat) (l1 : List (S49)) (r1 : List (S49)) (r2 : Int) (r3 : Bool) (w : World) (hr1 : Kd.C k49 w A1 l1.length l1) (hc1 : l1.length ≤ c1) (h : impl_FarthestByFlips.f k a0 l1 = some (r1, r2, r3)) (htab : TabOk w) :
  Calls Tryd.prog 19 #[.int .i64 a0, .slice A1 l1.length c1] w fun e w' => ∃ v0_ : Value, e = .returned (.tuple #[v0_, .int .i64 r2, .bool r3]) ∧ Kd.R k49 49 w' w.heap.size (fun _ => True) v0_ r1 ∧ Below w.heap.size w w' := by
 have HR1 := Aside0.mk hr1
 have HC1 := Aside0.mk hc1
 clear hr1 hc1
 have HB := Aside0.mk (Below.refl w.heap.size w)
 have HTAB := Aside0.mk htab
 clear htab
 have H : ((impl_isNear.f k a0 l1).bind fun t370 => (if t370 = true then ((impl_farthest.f k a0 l1).bind fun bt371 => (some (bt371.1, bt371.2, true))) else (some (([] : List (S49)), 0, false)))) = some (r1, r2, r3) := h
 clear h
 replace H := Option.bind_eq_some_iff.mp H
 obtain ⟨t370, A30, H⟩ := H
 replace H : (if t370 = true then ((impl_farthest.f k a0 l1).bind fun bt371 => (some (bt371.1, bt371.2, true))) else (some (([] : List (S49)), 0, false))) = some (r1, r2, r3) := H
 have A3 := Aside0.mk A30
 clear A30
 by_cases c4 : t370 = true
 ·subst c4
  replace H : ((impl_farthest.f k a0 l1).bind fun bt371 => (some (bt371.1, bt371.2, true))) = some (r1, r2, r3) := by rw [if_pos rfl] at H; exact H
  replace H := Option.bind_eq_some_iff.mp H
  obtain ⟨⟨t371, t372⟩, A50, H⟩ := H
  replace H : (some (t371, t372, true)) = some (r1, r2, r3) := H
  have A5 := Aside0.mk A50
  clear A50
  simp only [Option.some.injEq, Prod.mk.injEq] at H
  obtain ⟨rfl, rfl, rfl⟩ := H
  go_enter Tryd.func19, Tryd.ntmps19
  go_wp2_with (first | ((with_reducible refine gate_callee (f := 37) rfl ?_); refine goesL_ (some 11) rfl rfl Tryd.func37 (by kernel_rfl) rfl #[.int .i64 a0, .slice A1 l1.length c1] rfl amp_ ?_; (with_reducible refine (impl_isNear.calls k a0 _ _ l1 true _ ?side1 ?side2 A3.out).mono ?_); (case side1 => exact cd_ HR1.out); (case side2 => exact HC1.out); rintro e w6 ⟨rfl, hb⟩; refine ⟨_, rfl, ?_⟩; replace HB := Aside0.mk (below_step blw_ hb); (try clear hb); (try clear hb2); (try clear hk); (try clear hi)) | ((with_reducible refine gate_callee (f := 26) rfl ?_); refine goesL_ (some 16) rfl rfl Tryd.func26 (by kernel_rfl) rfl #[.int .i64 a0, .slice A1 l1.length c1] rfl amp_ ?_; (with_reducible refine (impl_farthest.calls k a0 _ _ l1 t371 t372 _ ?side1 ?side2 A5.out (HTAB.out.below blw_)).mono ?_); (case side1 => exact cd_ (Kd.C_below HR1.out HB.out)); (case side2 => exact HC1.out); rintro e w7 ⟨v373, rfl, ho0, hb⟩; refine ⟨_, rfl, ?_⟩; have HO374 := Aside0.mk (Kd.R_lower ho0 (below_size blw_)); replace HB := Aside0.mk (below_step blw_ hb); (try clear hb); (try clear hb2); (try clear hk); (try clear hi); (try clear ho0)))
  go_ret3
  exact ⟨_, by first | rfl | (simp [errW_none, errW_some] <;> rfl) | (simp [*, errW_none, errW_some] <;> rfl), by (with_reducible repeat (first | apply Kd.R_alloc | apply Kd.R_drewN | apply Kd.R_drew)); exact HO374.out, blw_⟩
 ·replace c4 := Bool.eq_false_iff.mpr c4
  subst c4
  replace H : (some (([] : List (S49)), 0, false)) = some (r1, r2, r3) := by rw [if_neg (show ¬ (false = true) by decide)] at H; exact H
  simp only [Option.some.injEq, Prod.mk.injEq] at H
  obtain ⟨rfl, rfl, rfl⟩ := H
  go_enter Tryd.func19, Tryd.ntmps19
  go_wp2_with (first | ((with_reducible refine gate_callee (f := 37) rfl ?_); refine goesL_ (some 11) rfl rfl Tryd.func37 (by kernel_rfl) rfl #[.int .i64 a0, .slice A1 l1.length c1] rfl amp_ ?_; (with_reducible refine (impl_isNear.calls k a0 _ _ l1 false _ ?side1 ?side2 A3.out).mono ?_); (case side1 => exact cd_ HR1.out); (case side2 => exact HC1.out); rintro e w8 ⟨rfl, hb⟩; refine ⟨_, rfl, ?_⟩; replace HB := Aside0.mk (below_step blw_ hb); (try clear hb); (try clear hb2); (try clear hk); (try clear hi)))
  go_ret3
  exact ⟨_, by first | rfl | (simp [errW_none, errW_some] <;> rfl) | (simp [*, errW_none, errW_some] <;> rfl), by first | exact Kd.R_nil _ _ _ _ _ | exact Kd.N_nil _ _ _ _ _ | exact Kd.V_nil _ _ _ _ _ | exact Kd.Q_nil _ _ _ _ _ | exact Kd.S_nil _ _ _ _ _, blw_⟩

/-! ### laws_FnExactFarthestByFlips: function 6 -/
mutual
def laws_FnExactFarthestByFlips.j0 : Nat → Int → List (S51) → List (S49) → Int → Bool → List (S49) → List (S49) → Int → Bool → Bool → Option (Bool)
 | 0, _, _, _, _, _, _, _, _, _, _ => none
 | k + 1, x0, x1, x6, x7, x8, x9, x10, x11, x12, x54 => if x54 = true then (some false) else ((laws_toDiagonalS.f k x1).bind fun t393 => ((laws_eqDiagonalS.f k x9 t393).bind fun t396 => (if t396 = true then ((laws_markDiagonalS.f k x9 1).bind fun bt397 => (if bt397.1 < 0 then (laws_FnExactFarthestByFlips.j1 k x0 x1 x6 x7 x8 x10 true) else ((laws_eqDiagonalS.f k x10 x6).bind fun t399 => (if t399 = true then (if x11 = x7 then (laws_FnExactFarthestByFlips.j1 k x0 x1 x6 x7 x8 x10 (x12 != x8)) else (laws_FnExactFarthestByFlips.j1 k x0 x1 x6 x7 x8 x10 true)) else (laws_FnExactFarthestByFlips.j1 k x0 x1 x6 x7 x8 x10 true))))) else (some false))))
def laws_FnExactFarthestByFlips.j1 : Nat → Int → List (S51) → List (S49) → Int → Bool → List (S49) → Bool → Option (Bool)
 | 0, _, _, _, _, _, _, _ => none
 | k + 1, x0, x1, x6, x7, x8, x10, x80 => if x80 = true then (some false) else ((laws_markDiagonalS.f k x10 1).bind fun bt400 => ((laws_heldDiagonalS.f k bt400.2 1).bind fun t402 => (if t402 < 0 then (some false) else (if t402 = bt400.1 then ((laws_toDiagonalS.f k x1).bind fun t403 => ((impl_FarthestByFlips.f k x0 t403).bind fun bt406 => ((laws_eqDiagonalS.f k bt406.1 x6).bind fun t411 => (if t411 = true then (if bt406.2.1 = x7 then (laws_FnExactFarthestByFlips.j2 k bt400.2 bt400.1 (bt406.2.2 != x8)) else (laws_FnExactFarthestByFlips.j2 k bt400.2 bt400.1 true)) else (laws_FnExactFarthestByFlips.j2 k bt400.2 bt400.1 true))))) else (some false)))))
def laws_FnExactFarthestByFlips.j2 : Nat → List (S49) → Int → Bool → Option (Bool)
 | 0, _, _, _ => none
 | k + 1, x10, x14, x113 => if x113 = true then (some false) else ((laws_heldDiagonalS.f k x10 1).bind fun t412 => (if t412 < 0 then (some false) else (if t412 = x14 then (some true) else (some false))))
end
def laws_FnExactFarthestByFlips.f (k : Nat) (a0 : Int) (l1 : List (S51)) : Option (Bool) := (laws_szDiagonalS.f l1 1048576).bind fun t375 => (if t375 < 0 then (some true) else ((laws_toDiagonalS.f k l1).bind fun t376 => ((spec_FarthestByFlips.f k a0 t376).bind fun bt379 => ((laws_toDiagonalS.f k l1).bind fun t384 => ((impl_FarthestByFlips.f k a0 t384).bind fun bt387 => ((laws_eqDiagonalS.f k bt387.1 bt379.1).bind fun t392 => (if t392 = true then (if bt387.2.1 = bt379.2.1 then (laws_FnExactFarthestByFlips.j0 k a0 l1 bt379.1 bt379.2.1 bt379.2.2 t384 bt387.1 bt387.2.1 bt387.2.2 (bt387.2.2 != bt379.2.2)) else (laws_FnExactFarthestByFlips.j0 k a0 l1 bt379.1 bt379.2.1 bt379.2.2 t384 bt387.1 bt387.2.1 bt387.2.2 true)) else (laws_FnExactFarthestByFlips.j0 k a0 l1 bt379.1 bt379.2.1 bt379.2.2 t384 bt387.1 bt387.2.1 bt387.2.2 true))))))))
theorem laws_FnExactFarthestByFlips.mono_l : ∀ k, (∀ y0 y1 y2 y3 y4 y5 y6 y7 y8 y9, LeO (laws_FnExactFarthestByFlips.j0 k y0 y1 y2 y3 y4 y5 y6 y7 y8 y9) (laws_FnExactFarthestByFlips.j0 (k + 1) y0 y1 y2 y3 y4 y5 y6 y7 y8 y9)) ∧ (∀ y0 y1 y2 y3 y4 y5 y6, LeO (laws_FnExactFarthestByFlips.j1 k y0 y1 y2 y3 y4 y5 y6) (laws_FnExactFarthestByFlips.j1 (k + 1) y0 y1 y2 y3 y4 y5 y6)) ∧ (∀ y0 y1 y2, LeO (laws_FnExactFarthestByFlips.j2 k y0 y1 y2) (laws_FnExactFarthestByFlips.j2 (k + 1) y0 y1 y2))
 | 0 => ⟨fun _ _ _ _ _ _ _ _ _ _ r h => by simp [laws_FnExactFarthestByFlips.j0] at h, fun _ _ _ _ _ _ _ r h => by simp [laws_FnExactFarthestByFlips.j1] at h, fun _ _ _ r h => by simp [laws_FnExactFarthestByFlips.j2] at h⟩
 | k + 1 => by
  obtain ⟨ih0, ih1, ih2⟩ := laws_FnExactFarthestByFlips.mono_l k
  refine ⟨?_, ?_, ?_⟩
  ·intro y0 y1 y2 y3 y4 y5 y6 y7 y8 y9
   unfold laws_FnExactFarthestByFlips.j0
   repeat' first
   | (with_reducible exact ih0 _ _ _ _ _ _ _ _ _ _)
   | (with_reducible exact ih1 _ _ _ _ _ _ _)
   | (with_reducible exact ih2 _ _ _)
   | (with_reducible exact impl_FarthestByFlips.mono _ _ _)
   | (with_reducible exact laws_eqDiagonalS.mono _ _ _)
   | (with_reducible exact laws_heldDiagonalS.mono _ _ _)
   | (with_reducible exact laws_markDiagonalS.mono _ _ _)
   | (with_reducible exact laws_toDiagonalS.mono _ _)
   | (with_reducible exact spec_FarthestByFlips.mono _ _ _)
   | (with_reducible exact LeO.refl _)
   | (with_reducible exact LeO.none _)
   | (with_reducible refine LeO.ite ?_ ?_)
   | (with_reducible refine LeO.bind ?_ (fun _ => ?_))
   | exact ih0 _ _ _ _ _ _ _ _ _ _
   | exact ih1 _ _ _ _ _ _ _
   | exact ih2 _ _ _
   | exact impl_FarthestByFlips.mono _ _ _
   | exact laws_eqDiagonalS.mono _ _ _
   | exact laws_heldDiagonalS.mono _ _ _
   | exact laws_markDiagonalS.mono _ _ _
   | exact laws_toDiagonalS.mono _ _
   | exact spec_FarthestByFlips.mono _ _ _
   | exact LeO.none _
   | refine LeO.ite ?_ ?_
   | refine LeO.bind ?_ (fun _ => ?_)
  ·intro y0 y1 y2 y3 y4 y5 y6
   unfold laws_FnExactFarthestByFlips.j1
   repeat' first
   | (with_reducible exact ih0 _ _ _ _ _ _ _ _ _ _)
   | (with_reducible exact ih1 _ _ _ _ _ _ _)
   | (with_reducible exact ih2 _ _ _)
   | (with_reducible exact impl_FarthestByFlips.mono _ _ _)
   | (with_reducible exact laws_eqDiagonalS.mono _ _ _)
   | (with_reducible exact laws_heldDiagonalS.mono _ _ _)
   | (with_reducible exact laws_markDiagonalS.mono _ _ _)
   | (with_reducible exact laws_toDiagonalS.mono _ _)
   | (with_reducible exact spec_FarthestByFlips.mono _ _ _)
   | (with_reducible exact LeO.refl _)
   | (with_reducible exact LeO.none _)
   | (with_reducible refine LeO.ite ?_ ?_)
   | (with_reducible refine LeO.bind ?_ (fun _ => ?_))
   | exact ih0 _ _ _ _ _ _ _ _ _ _
   | exact ih1 _ _ _ _ _ _ _
   | exact ih2 _ _ _
   | exact impl_FarthestByFlips.mono _ _ _
   | exact laws_eqDiagonalS.mono _ _ _
   | exact laws_heldDiagonalS.mono _ _ _
   | exact laws_markDiagonalS.mono _ _ _
   | exact laws_toDiagonalS.mono _ _
   | exact spec_FarthestByFlips.mono _ _ _
   | exact LeO.none _
   | refine LeO.ite ?_ ?_
   | refine LeO.bind ?_ (fun _ => ?_)
  ·intro y0 y1 y2
   unfold laws_FnExactFarthestByFlips.j2
   repeat' first
   | (with_reducible exact ih0 _ _ _ _ _ _ _ _ _ _)
   | (with_reducible exact ih1 _ _ _ _ _ _ _)
   | (with_reducible exact ih2 _ _ _)
   | (with_reducible exact impl_FarthestByFlips.mono _ _ _)
   | (with_reducible exact laws_eqDiagonalS.mono _ _ _)
   | (with_reducible exact laws_heldDiagonalS.mono _ _ _)
   | (with_reducible exact laws_markDiagonalS.mono _ _ _)
   | (with_reducible exact laws_toDiagonalS.mono _ _)
   | (with_reducible exact spec_FarthestByFlips.mono _ _ _)
   | (with_reducible exact LeO.refl _)
   | (with_reducible exact LeO.none _)
   | (with_reducible refine LeO.ite ?_ ?_)
   | (with_reducible refine LeO.bind ?_ (fun _ => ?_))
   | exact ih0 _ _ _ _ _ _ _ _ _ _
   | exact ih1 _ _ _ _ _ _ _
   | exact ih2 _ _ _
   | exact impl_FarthestByFlips.mono _ _ _
   | exact laws_eqDiagonalS.mono _ _ _
   | exact laws_heldDiagonalS.mono _ _ _
   | exact laws_markDiagonalS.mono _ _ _
   | exact laws_toDiagonalS.mono _ _
   | exact spec_FarthestByFlips.mono _ _ _
   | exact LeO.none _
   | refine LeO.ite ?_ ?_
   | refine LeO.bind ?_ (fun _ => ?_)
theorem laws_FnExactFarthestByFlips.mono : ∀ a0 a1 k, LeO (laws_FnExactFarthestByFlips.f k a0 a1) (laws_FnExactFarthestByFlips.f (k + 1) a0 a1) := by
 intro a0 a1 k
 obtain ⟨ih0, ih1, ih2⟩ := laws_FnExactFarthestByFlips.mono_l k
 unfold laws_FnExactFarthestByFlips.f
 repeat' first
   | (with_reducible exact ih0 _ _ _ _ _ _ _ _ _ _)
   | (with_reducible exact ih1 _ _ _ _ _ _ _)
   | (with_reducible exact ih2 _ _ _)
   | (with_reducible exact impl_FarthestByFlips.mono _ _ _)
   | (with_reducible exact laws_eqDiagonalS.mono _ _ _)
   | (with_reducible exact laws_heldDiagonalS.mono _ _ _)
   | (with_reducible exact laws_markDiagonalS.mono _ _ _)
   | (with_reducible exact laws_toDiagonalS.mono _ _)
   | (with_reducible exact spec_FarthestByFlips.mono _ _ _)
   | (with_reducible exact LeO.refl _)
   | (with_reducible exact LeO.none _)
   | (with_reducible refine LeO.ite ?_ ?_)
   | (with_reducible refine LeO.bind ?_ (fun _ => ?_))
   | exact ih0 _ _ _ _ _ _ _ _ _ _
   | exact ih1 _ _ _ _ _ _ _
   | exact ih2 _ _ _
   | exact impl_FarthestByFlips.mono _ _ _
   | exact laws_eqDiagonalS.mono _ _ _
   | exact laws_heldDiagonalS.mono _ _ _
   | exact laws_markDiagonalS.mono _ _ _
   | exact laws_toDiagonalS.mono _ _
   | exact spec_FarthestByFlips.mono _ _ _
   | exact LeO.none _
   | refine LeO.ite ?_ ?_
   | refine LeO.bind ?_ (fun _ => ?_)
set_option maxHeartbeats 8000000 in
set_option maxRecDepth 100000 in
theorem laws_FnExactFarthestByFlips.calls (k : Nat) (a0 : Int) (A1 : Option Addr) (c1 : Nat) (l1 : List (S51)) (r : Bool) (w : World) (hr1 : Kd.C k51 w A1 l1.length l1) (hc1 : l1.length ≤ c1) (h : laws_FnExactFarthestByFlips.f k a0 l1 = some r) (htab : TabOk w) (htrue : Aside0 (r = true) := by exact ⟨rfl⟩) :
  Calls Tryd.prog 6 #[.int .i64 a0, .slice A1 l1.length c1] w fun e w' => e = .returned (.bool r) ∧ Below w.heap.size w w' := by
 have HR1 := Aside0.mk hr1
 have HC1 := Aside0.mk hc1
 clear hr1 hc1
 have HB := Aside0.mk (Below.refl w.heap.size w)
 have HTAB := Aside0.mk htab
 clear htab
 have H : ((laws_szDiagonalS.f l1 1048576).bind fun t375 => (if t375 < 0 then (some true) else ((laws_toDiagonalS.f k l1).bind fun t376 => ((spec_FarthestByFlips.f k a0 t376).bind fun bt379 => ((laws_toDiagonalS.f k l1).bind fun t384 => ((impl_FarthestByFlips.f k a0 t384).bind fun bt387 => ((laws_eqDiagonalS.f k bt387.1 bt379.1).bind fun t392 => (if t392 = true then (if bt387.2.1 = bt379.2.1 then (laws_FnExactFarthestByFlips.j0 k a0 l1 bt379.1 bt379.2.1 bt379.2.2 t384 bt387.1 bt387.2.1 bt387.2.2 (bt387.2.2 != bt379.2.2)) else (laws_FnExactFarthestByFlips.j0 k a0 l1 bt379.1 bt379.2.1 bt379.2.2 t384 bt387.1 bt387.2.1 bt387.2.2 true)) else (laws_FnExactFarthestByFlips.j0 k a0 l1 bt379.1 bt379.2.1 bt379.2.2 t384 bt387.1 bt387.2.1 bt387.2.2 true))))))))) = some r := h
 clear h
 replace H := Option.bind_eq_some_iff.mp H
 obtain ⟨t375, A30, H⟩ := H
 replace H : (if t375 < 0 then (some true) else ((laws_toDiagonalS.f k l1).bind fun t376 => ((spec_FarthestByFlips.f k a0 t376).bind fun bt379 => ((laws_toDiagonalS.f k l1).bind fun t384 => ((impl_FarthestByFlips.f k a0 t384).bind fun bt387 => ((laws_eqDiagonalS.f k bt387.1 bt379.1).bind fun t392 => (if t392 = true then (if bt387.2.1 = bt379.2.1 then (laws_FnExactFarthestByFlips.j0 k a0 l1 bt379.1 bt379.2.1 bt379.2.2 t384 bt387.1 bt387.2.1 bt387.2.2 (bt387.2.2 != bt379.2.2)) else (laws_FnExactFarthestByFlips.j0 k a0 l1 bt379.1 bt379.2.1 bt379.2.2 t384 bt387.1 bt387.2.1 bt387.2.2 true)) else (laws_FnExactFarthestByFlips.j0 k a0 l1 bt379.1 bt379.2.1 bt379.2.2 t384 bt387.1 bt387.2.1 bt387.2.2 true)))))))) = some r := H
 have A3 := Aside0.mk A30
 clear A30
 by_cases c4 : t375 < 0
 ·rw [if_pos c4] at H
  have c4b0 : decide (t375 < 0) = true := decide_eq_true c4
  clear c4
  obtain rfl := Option.some.inj H
  go_enter Tryd.func6, Tryd.ntmps6
  go_wp2_with (first | ((with_reducible refine gate_callee (f := 9) rfl ?_); refine goesL_ (some 21) rfl rfl Tryd.func9 (by kernel_rfl) rfl #[.slice A1 l1.length c1, .int .i64 1048576] rfl amp_ ?_; (with_reducible refine (laws_szDiagonalS.calls _ _ l1 1048576 t375 _ ?side1 ?side2 A3.out).mono ?_); (case side1 => exact cd_ HR1.out); (case side2 => exact HC1.out); rintro e w' ⟨rfl, ⟨nd, rfl⟩⟩; refine ⟨_, rfl, ?_⟩))
  go_ret
  exact er_
 ·rw [if_neg c4] at H
  have c4b0 : decide (t375 < 0) = false := decide_eq_false c4
  clear c4
  replace H := Option.bind_eq_some_iff.mp H
  obtain ⟨t376, A50, H⟩ := H
  replace H : ((spec_FarthestByFlips.f k a0 t376).bind fun bt379 => ((laws_toDiagonalS.f k l1).bind fun t384 => ((impl_FarthestByFlips.f k a0 t384).bind fun bt387 => ((laws_eqDiagonalS.f k bt387.1 bt379.1).bind fun t392 => (if t392 = true then (if bt387.2.1 = bt379.2.1 then (laws_FnExactFarthestByFlips.j0 k a0 l1 bt379.1 bt379.2.1 bt379.2.2 t384 bt387.1 bt387.2.1 bt387.2.2 (bt387.2.2 != bt379.2.2)) else (laws_FnExactFarthestByFlips.j0 k a0 l1 bt379.1 bt379.2.1 bt379.2.2 t384 bt387.1 bt387.2.1 bt387.2.2 true)) else (laws_FnExactFarthestByFlips.j0 k a0 l1 bt379.1 bt379.2.1 bt379.2.2 t384 bt387.1 bt387.2.1 bt387.2.2 true)))))) = some r := H
  have A5 := Aside0.mk A50
  clear A50
  replace H := Option.bind_eq_some_iff.mp H
  obtain ⟨⟨t379, t380, t381⟩, A60, H⟩ := H
  replace H : ((laws_toDiagonalS.f k l1).bind fun t384 => ((impl_FarthestByFlips.f k a0 t384).bind fun bt387 => ((laws_eqDiagonalS.f k bt387.1 t379).bind fun t392 => (if t392 = true then (if bt387.2.1 = t380 then (laws_FnExactFarthestByFlips.j0 k a0 l1 t379 t380 t381 t384 bt387.1 bt387.2.1 bt387.2.2 (bt387.2.2 != t381)) else (laws_FnExactFarthestByFlips.j0 k a0 l1 t379 t380 t381 t384 bt387.1 bt387.2.1 bt387.2.2 true)) else (laws_FnExactFarthestByFlips.j0 k a0 l1 t379 t380 t381 t384 bt387.1 bt387.2.1 bt387.2.2 true))))) = some r := H
  have A6 := Aside0.mk A60
  clear A60
  replace H := Option.bind_eq_some_iff.mp H
  obtain ⟨t384, A70, H⟩ := H
  replace H : ((impl_FarthestByFlips.f k a0 t384).bind fun bt387 => ((laws_eqDiagonalS.f k bt387.1 t379).bind fun t392 => (if t392 = true then (if bt387.2.1 = t380 then (laws_FnExactFarthestByFlips.j0 k a0 l1 t379 t380 t381 t384 bt387.1 bt387.2.1 bt387.2.2 (bt387.2.2 != t381)) else (laws_FnExactFarthestByFlips.j0 k a0 l1 t379 t380 t381 t384 bt387.1 bt387.2.1 bt387.2.2 true)) else (laws_FnExactFarthestByFlips.j0 k a0 l1 t379 t380 t381 t384 bt387.1 bt387.2.1 bt387.2.2 true)))) = some r := H
  have A7 := Aside0.mk A70
  clear A70
  replace H := Option.bind_eq_some_iff.mp H
  obtain ⟨⟨t387, t388, t389⟩, A80, H⟩ := H
  replace H : ((laws_eqDiagonalS.f k t387 t379).bind fun t392 => (if t392 = true then (if t388 = t380 then (laws_FnExactFarthestByFlips.j0 k a0 l1 t379 t380 t381 t384 t387 t388 t389 (t389 != t381)) else (laws_FnExactFarthestByFlips.j0 k a0 l1 t379 t380 t381 t384 t387 t388 t389 true)) else (laws_FnExactFarthestByFlips.j0 k a0 l1 t379 t380 t381 t384 t387 t388 t389 true))) = some r := H
  have A8 := Aside0.mk A80
  clear A80
  have HC9 := Aside0.mk H
  clear H
  go_enter Tryd.func6, Tryd.ntmps6
  go_upto_region 8 with (first | ((with_reducible refine gate_callee (f := 9) rfl ?_); refine goesL_ (some 21) rfl rfl Tryd.func9 (by kernel_rfl) rfl #[.slice A1 l1.length c1, .int .i64 1048576] rfl amp_ ?_; (with_reducible refine (laws_szDiagonalS.calls _ _ l1 1048576 t375 _ ?side1 ?side2 A3.out).mono ?_); (case side1 => exact cd_ HR1.out); (case side2 => exact HC1.out); rintro e w' ⟨rfl, ⟨nd, rfl⟩⟩; refine ⟨_, rfl, ?_⟩) | ((with_reducible refine gate_callee (f := 11) rfl ?_); refine goesL_ (some 27) rfl rfl Tryd.func11 (by kernel_rfl) rfl #[.slice A1 l1.length c1] rfl amp_ ?_; (with_reducible refine (laws_toDiagonalS.calls k _ _ l1 t376 _ ?side1 ?side2 A5.out).mono ?_); (case side1 => exact cd_ HR1.out); (case side2 => exact HC1.out); rintro e w10 ⟨v377, rfl, ho0, hb⟩; refine ⟨_, rfl, ?_⟩; have HO378 := Aside0.mk (Kd.R_lower ho0 (below_size blw_)); replace HB := Aside0.mk (below_step blw_ hb); (try clear hb); (try clear hb2); (try clear hk); (try clear hi); (try clear ho0); obtain ⟨Ao11, co11, eo11⟩ := Kd.R_slice HO378.out; subst eo11) | ((with_reducible refine gate_callee (f := 18) rfl ?_); refine goesL_ (some 28) rfl rfl Tryd.func18 (by kernel_rfl) rfl #[.int .i64 a0, .slice Ao11 t376.length co11] rfl amp_ ?_; (with_reducible refine (spec_FarthestByFlips.calls k a0 _ _ t376 t379 t380 t381 _ ?side1 ?side2 A6.out).mono ?_); (case side1 => exact cd_ (Kd.R_reads' HO378.out).2.2); (case side2 => exact (Kd.R_reads' HO378.out).2.1); rintro e w12 ⟨v382, rfl, ho0, hb⟩; refine ⟨_, rfl, ?_⟩; have HO383 := Aside0.mk (Kd.R_lower (Kd.R_new' ho0 (Kd.R_lt (ra_ HO378.out))) (below_size blw_)); replace HO378 := Aside0.mk (Kd.R_elder' (ra_ HO378.out) (Kd.R_base ho0) hb); replace HB := Aside0.mk (below_step blw_ hb); (try clear hb); (try clear hb2); (try clear hk); (try clear hi); (try clear ho0)) | ((with_reducible refine gate_callee (f := 11) rfl ?_); refine goesL_ (some 33) rfl rfl Tryd.func11 (by kernel_rfl) rfl #[.slice A1 l1.length c1] rfl amp_ ?_; (with_reducible refine (laws_toDiagonalS.calls k _ _ l1 t384 _ ?side1 ?side2 A7.out).mono ?_); (case side1 => exact cd_ (Kd.C_below HR1.out HB.out)); (case side2 => exact HC1.out); rintro e w13 ⟨v385, rfl, ho0, hb⟩; refine ⟨_, rfl, ?_⟩; have HO386 := Aside0.mk (Kd.R_lower (Kd.R_new' (Kd.R_new' ho0 (Kd.R_lt (ra_ HO378.out))) (Kd.R_lt (ra_ HO383.out))) (below_size blw_)); replace HO378 := Aside0.mk (Kd.R_elder' (ra_ HO378.out) (Kd.R_base ho0) hb); replace HO383 := Aside0.mk (Kd.R_elder' (ra_ HO383.out) (Kd.R_base ho0) hb); replace HB := Aside0.mk (below_step blw_ hb); (try clear hb); (try clear hb2); (try clear hk); (try clear hi); (try clear ho0); obtain ⟨Ao14, co14, eo14⟩ := Kd.R_slice HO386.out; subst eo14) | ((with_reducible refine gate_callee (f := 19) rfl ?_); refine goesL_ (some 37) rfl rfl Tryd.func19 (by kernel_rfl) rfl #[.int .i64 a0, .slice Ao14 t384.length co14] rfl amp_ ?_; (with_reducible refine (impl_FarthestByFlips.calls k a0 _ _ t384 t387 t388 t389 _ ?side1 ?side2 A8.out (HTAB.out.below blw_)).mono ?_); (case side1 => exact cd_ (Kd.R_reads' HO386.out).2.2); (case side2 => exact (Kd.R_reads' HO386.out).2.1); rintro e w15 ⟨v390, rfl, ho0, hb⟩; refine ⟨_, rfl, ?_⟩; have HO391 := Aside0.mk (Kd.R_lower (Kd.R_new' (Kd.R_new' (Kd.R_new' ho0 (Kd.R_lt (ra_ HO378.out))) (Kd.R_lt (ra_ HO383.out))) (Kd.R_lt (ra_ HO386.out))) (below_size blw_)); replace HO378 := Aside0.mk (Kd.R_elder' (ra_ HO378.out) (Kd.R_base ho0) hb); replace HO383 := Aside0.mk (Kd.R_elder' (ra_ HO383.out) (Kd.R_base ho0) hb); replace HO386 := Aside0.mk (Kd.R_elder' (ra_ HO386.out) (Kd.R_base ho0) hb); replace HB := Aside0.mk (below_step blw_ hb); (try clear hb); (try clear hb2); (try clear hk); (try clear hi); (try clear ho0)))
  (try simp only [Act.put, List.setIfInBounds_toArray, List.set_cons_zero, List.set_cons_succ])
  go_cut [54] (fun v54 wc => ∃ (kq : Nat) (x54_8 : Bool), v54 = .bool x54_8 ∧ Aside0 (laws_FnExactFarthestByFlips.j0 kq a0 l1 t379 t380 t381 t384 t387 t388 t389 x54_8 = some r) ∧ Aside0 (kq ≤ k) ∧ Aside0 (Kd.R k49 49 wc w.heap.size (fun k_ => some k_ ≠ ((.slice Ao14 t384.length co14) : Value).ownBlock ∧ some k_ ≠ (v390 : Value).ownBlock) v382 t379) ∧ Aside0 (Kd.R k49 49 wc w.heap.size (fun k_ => some k_ ≠ (v382 : Value).ownBlock ∧ some k_ ≠ (v390 : Value).ownBlock) (.slice Ao14 t384.length co14) t384) ∧ Aside0 (Kd.R k49 49 wc w.heap.size (fun k_ => some k_ ≠ (v382 : Value).ownBlock ∧ some k_ ≠ ((.slice Ao14 t384.length co14) : Value).ownBlock) v390 t387) ∧ Aside0 (Below w.heap.size w wc))
  case first =>
   have H := HC9.out
   clear HC9
   replace H := Option.bind_eq_some_iff.mp H
   obtain ⟨t392, A160, H⟩ := H
   replace H : (if t392 = true then (if t388 = t380 then (laws_FnExactFarthestByFlips.j0 k a0 l1 t379 t380 t381 t384 t387 t388 t389 (t389 != t381)) else (laws_FnExactFarthestByFlips.j0 k a0 l1 t379 t380 t381 t384 t387 t388 t389 true)) else (laws_FnExactFarthestByFlips.j0 k a0 l1 t379 t380 t381 t384 t387 t388 t389 true)) = some r := H
   have A16 := Aside0.mk A160
   clear A160
   by_cases c17 : t392 = true
   ·subst c17
    replace H : (if t388 = t380 then (laws_FnExactFarthestByFlips.j0 k a0 l1 t379 t380 t381 t384 t387 t388 t389 (t389 != t381)) else (laws_FnExactFarthestByFlips.j0 k a0 l1 t379 t380 t381 t384 t387 t388 t389 true)) = some r := by rw [if_pos rfl] at H; exact H
    by_cases c18 : t388 = t380
    ·rw [if_pos c18] at H
     have c18b0 : (t388 == t380) = true := beq_iff_eq.mpr c18
     have c18b1 : (t388 != t380) = false := bne_eq_false_iff_eq.mpr c18
     clear c18
     (first | rw [c18b0] | (simp only [i64_w, i32_w]; rw [c18b0]) | skip)
     have H' := Aside0.mk H
     clear H
     obtain ⟨Ao19, co19, eo19⟩ := Kd.R_slice HO391.out
     subst eo19
     obtain ⟨Ao20, co20, eo20⟩ := Kd.R_slice HO383.out
     subst eo20
     go_wp2_with (first | ((with_reducible refine gate_callee (f := 13) rfl ?_); refine goesL_ (some 43) rfl rfl Tryd.func13 (by kernel_rfl) rfl #[.slice Ao19 t387.length co19, .slice Ao20 t379.length co20] rfl amp_ ?_; (with_reducible refine (laws_eqDiagonalS.calls k _ _ t387 _ _ t379 true _ ?side1 ?side2 ?side3 ?side4 A16.out).mono ?_); (case side1 => exact cd_ (Kd.R_reads' HO391.out).2.2); (case side2 => exact (Kd.R_reads' HO391.out).2.1); (case side3 => exact cd_ (Kd.R_reads' HO383.out).2.2); (case side4 => exact (Kd.R_reads' HO383.out).2.1); rintro e w21 ⟨rfl, hb⟩; refine ⟨_, rfl, ?_⟩; replace HO378 := Aside0.mk (Kd.R_below (ra_ HO378.out) hb); replace HO383 := Aside0.mk (Kd.R_below (ra_ HO383.out) hb); replace HO386 := Aside0.mk (Kd.R_below (ra_ HO386.out) hb); replace HO391 := Aside0.mk (Kd.R_below (ra_ HO391.out) hb); replace HB := Aside0.mk (below_step blw_ hb); (try clear hb); (try clear hb2); (try clear hk); (try clear hi)))
     go_meet
     case rel => exact ⟨_, ((t389 != t381)), rsd_, H', ⟨by first | omega | exact Nat.le_refl _⟩, ⟨by (with_reducible repeat (first | apply Kd.R_alloc | apply Kd.R_drewN | apply Kd.R_drew)); exact Kd.R_mono HO383.out (fun _ hk => ⟨hk.1.2, hk.2⟩)⟩, ⟨by (with_reducible repeat (first | apply Kd.R_alloc | apply Kd.R_drewN | apply Kd.R_drew)); exact Kd.R_mono HO386.out (fun _ hk => ⟨hk.1.2, hk.2⟩)⟩, ⟨by (with_reducible repeat (first | apply Kd.R_alloc | apply Kd.R_drewN | apply Kd.R_drew)); exact Kd.R_mono HO391.out (fun _ hk => ⟨hk.1.2, hk.2⟩)⟩, ⟨blw_⟩⟩
    ·rw [if_neg c18] at H
     have c18b0 : (t388 == t380) = false := beq_eq_false_iff_ne.mpr c18
     have c18b1 : (t388 != t380) = true := bne_iff_ne.mpr c18
     (first | rw [c18b0] | (simp only [i64_w, i32_w]; rw [c18b0]) | skip)
     have H' := Aside0.mk H
     clear H
     obtain ⟨Ao22, co22, eo22⟩ := Kd.R_slice HO391.out
     subst eo22
     obtain ⟨Ao23, co23, eo23⟩ := Kd.R_slice HO383.out
     subst eo23
     go_wp2_with (first | ((with_reducible refine gate_callee (f := 13) rfl ?_); refine goesL_ (some 43) rfl rfl Tryd.func13 (by kernel_rfl) rfl #[.slice Ao22 t387.length co22, .slice Ao23 t379.length co23] rfl amp_ ?_; (with_reducible refine (laws_eqDiagonalS.calls k _ _ t387 _ _ t379 true _ ?side1 ?side2 ?side3 ?side4 A16.out).mono ?_); (case side1 => exact cd_ (Kd.R_reads' HO391.out).2.2); (case side2 => exact (Kd.R_reads' HO391.out).2.1); (case side3 => exact cd_ (Kd.R_reads' HO383.out).2.2); (case side4 => exact (Kd.R_reads' HO383.out).2.1); rintro e w24 ⟨rfl, hb⟩; refine ⟨_, rfl, ?_⟩; replace HO378 := Aside0.mk (Kd.R_below (ra_ HO378.out) hb); replace HO383 := Aside0.mk (Kd.R_below (ra_ HO383.out) hb); replace HO386 := Aside0.mk (Kd.R_below (ra_ HO386.out) hb); replace HO391 := Aside0.mk (Kd.R_below (ra_ HO391.out) hb); replace HB := Aside0.mk (below_step blw_ hb); (try clear hb); (try clear hb2); (try clear hk); (try clear hi)))
     go_meet
     case rel => exact ⟨_, (true), rsd_, H', ⟨by first | omega | exact Nat.le_refl _⟩, ⟨by (with_reducible repeat (first | apply Kd.R_alloc | apply Kd.R_drewN | apply Kd.R_drew)); exact Kd.R_mono HO383.out (fun _ hk => ⟨hk.1.2, hk.2⟩)⟩, ⟨by (with_reducible repeat (first | apply Kd.R_alloc | apply Kd.R_drewN | apply Kd.R_drew)); exact Kd.R_mono HO386.out (fun _ hk => ⟨hk.1.2, hk.2⟩)⟩, ⟨by (with_reducible repeat (first | apply Kd.R_alloc | apply Kd.R_drewN | apply Kd.R_drew)); exact Kd.R_mono HO391.out (fun _ hk => ⟨hk.1.2, hk.2⟩)⟩, ⟨blw_⟩⟩
   ·replace c17 := Bool.eq_false_iff.mpr c17
    subst c17
    replace H : (laws_FnExactFarthestByFlips.j0 k a0 l1 t379 t380 t381 t384 t387 t388 t389 true) = some r := by rw [if_neg (show ¬ (false = true) by decide)] at H; exact H
    have H' := Aside0.mk H
    clear H
    obtain ⟨Ao25, co25, eo25⟩ := Kd.R_slice HO391.out
    subst eo25
    obtain ⟨Ao26, co26, eo26⟩ := Kd.R_slice HO383.out
    subst eo26
    go_wp2_with (first | ((with_reducible refine gate_callee (f := 13) rfl ?_); refine goesL_ (some 43) rfl rfl Tryd.func13 (by kernel_rfl) rfl #[.slice Ao25 t387.length co25, .slice Ao26 t379.length co26] rfl amp_ ?_; (with_reducible refine (laws_eqDiagonalS.calls k _ _ t387 _ _ t379 false _ ?side1 ?side2 ?side3 ?side4 A16.out).mono ?_); (case side1 => exact cd_ (Kd.R_reads' HO391.out).2.2); (case side2 => exact (Kd.R_reads' HO391.out).2.1); (case side3 => exact cd_ (Kd.R_reads' HO383.out).2.2); (case side4 => exact (Kd.R_reads' HO383.out).2.1); rintro e w27 ⟨rfl, hb⟩; refine ⟨_, rfl, ?_⟩; replace HO378 := Aside0.mk (Kd.R_below (ra_ HO378.out) hb); replace HO383 := Aside0.mk (Kd.R_below (ra_ HO383.out) hb); replace HO386 := Aside0.mk (Kd.R_below (ra_ HO386.out) hb); replace HO391 := Aside0.mk (Kd.R_below (ra_ HO391.out) hb); replace HB := Aside0.mk (below_step blw_ hb); (try clear hb); (try clear hb2); (try clear hk); (try clear hi)))
    go_meet
    case rel => exact ⟨_, (true), rsd_, H', ⟨by first | omega | exact Nat.le_refl _⟩, ⟨by (with_reducible repeat (first | apply Kd.R_alloc | apply Kd.R_drewN | apply Kd.R_drew)); exact Kd.R_mono HO383.out (fun _ hk => ⟨hk.1.2, hk.2⟩)⟩, ⟨by (with_reducible repeat (first | apply Kd.R_alloc | apply Kd.R_drewN | apply Kd.R_drew)); exact Kd.R_mono HO386.out (fun _ hk => ⟨hk.1.2, hk.2⟩)⟩, ⟨by (with_reducible repeat (first | apply Kd.R_alloc | apply Kd.R_drewN | apply Kd.R_drew)); exact Kd.R_mono HO391.out (fun _ hk => ⟨hk.1.2, hk.2⟩)⟩, ⟨blw_⟩⟩
  case rest =>
   clear HC9
   try clear c1
   try clear p2
   try clear c4
   try clear c4b0
   try clear c6
   try clear c9
   try clear c11
   try clear c13
   try clear c17
   try clear c18
   try clear c18b0
   try clear c18b1
   try clear c19
   obtain ⟨kq, x54_8, rfl, HA, HJ8, HO_6, HO_9, HO_10, HB⟩ := hcut
   cases kq with
   | zero => exact absurd HA.out (by simp [laws_FnExactFarthestByFlips.j0])
   | succ kj8 =>
    have H := HA.out
    clear HA
    simp only [laws_FnExactFarthestByFlips.j0] at H
    by_cases c28 : x54_8 = true
    ·subst c28
     replace H : (some false) = some r := by rw [if_pos rfl] at H; exact H
     exact absurd (H.trans (congrArg some htrue.out)) (by decide)
    ·replace c28 := Bool.eq_false_iff.mpr c28
     subst c28
     replace H : ((laws_toDiagonalS.f kj8 l1).bind fun t393 => ((laws_eqDiagonalS.f kj8 t384 t393).bind fun t396 => (if t396 = true then ((laws_markDiagonalS.f kj8 t384 1).bind fun bt397 => (if bt397.1 < 0 then (laws_FnExactFarthestByFlips.j1 kj8 a0 l1 t379 t380 t381 t387 true) else ((laws_eqDiagonalS.f kj8 t387 t379).bind fun t399 => (if t399 = true then (if t388 = t380 then (laws_FnExactFarthestByFlips.j1 kj8 a0 l1 t379 t380 t381 t387 (t389 != t381)) else (laws_FnExactFarthestByFlips.j1 kj8 a0 l1 t379 t380 t381 t387 true)) else (laws_FnExactFarthestByFlips.j1 kj8 a0 l1 t379 t380 t381 t387 true))))) else (some false)))) = some r := by rw [if_neg (show ¬ (false = true) by decide)] at H; exact H
     replace H := Option.bind_eq_some_iff.mp H
     obtain ⟨t393, A290, H⟩ := H
     replace H : ((laws_eqDiagonalS.f kj8 t384 t393).bind fun t396 => (if t396 = true then ((laws_markDiagonalS.f kj8 t384 1).bind fun bt397 => (if bt397.1 < 0 then (laws_FnExactFarthestByFlips.j1 kj8 a0 l1 t379 t380 t381 t387 true) else ((laws_eqDiagonalS.f kj8 t387 t379).bind fun t399 => (if t399 = true then (if t388 = t380 then (laws_FnExactFarthestByFlips.j1 kj8 a0 l1 t379 t380 t381 t387 (t389 != t381)) else (laws_FnExactFarthestByFlips.j1 kj8 a0 l1 t379 t380 t381 t387 true)) else (laws_FnExactFarthestByFlips.j1 kj8 a0 l1 t379 t380 t381 t387 true))))) else (some false))) = some r := H
     have A29 := Aside0.mk A290
     clear A290
     replace H := Option.bind_eq_some_iff.mp H
     obtain ⟨t396, A300, H⟩ := H
     replace H : (if t396 = true then ((laws_markDiagonalS.f kj8 t384 1).bind fun bt397 => (if bt397.1 < 0 then (laws_FnExactFarthestByFlips.j1 kj8 a0 l1 t379 t380 t381 t387 true) else ((laws_eqDiagonalS.f kj8 t387 t379).bind fun t399 => (if t399 = true then (if t388 = t380 then (laws_FnExactFarthestByFlips.j1 kj8 a0 l1 t379 t380 t381 t387 (t389 != t381)) else (laws_FnExactFarthestByFlips.j1 kj8 a0 l1 t379 t380 t381 t387 true)) else (laws_FnExactFarthestByFlips.j1 kj8 a0 l1 t379 t380 t381 t387 true))))) else (some false)) = some r := H
     have A30 := Aside0.mk A300
     clear A300
     by_cases c31 : t396 = true
     ·subst c31
      replace H : ((laws_markDiagonalS.f kj8 t384 1).bind fun bt397 => (if bt397.1 < 0 then (laws_FnExactFarthestByFlips.j1 kj8 a0 l1 t379 t380 t381 t387 true) else ((laws_eqDiagonalS.f kj8 t387 t379).bind fun t399 => (if t399 = true then (if t388 = t380 then (laws_FnExactFarthestByFlips.j1 kj8 a0 l1 t379 t380 t381 t387 (t389 != t381)) else (laws_FnExactFarthestByFlips.j1 kj8 a0 l1 t379 t380 t381 t387 true)) else (laws_FnExactFarthestByFlips.j1 kj8 a0 l1 t379 t380 t381 t387 true))))) = some r := by rw [if_pos rfl] at H; exact H
      replace H := Option.bind_eq_some_iff.mp H
      obtain ⟨⟨t397, t398⟩, A320, H⟩ := H
      replace H : (if t397 < 0 then (laws_FnExactFarthestByFlips.j1 kj8 a0 l1 t379 t380 t381 t387 true) else ((laws_eqDiagonalS.f kj8 t387 t379).bind fun t399 => (if t399 = true then (if t388 = t380 then (laws_FnExactFarthestByFlips.j1 kj8 a0 l1 t379 t380 t381 t387 (t389 != t381)) else (laws_FnExactFarthestByFlips.j1 kj8 a0 l1 t379 t380 t381 t387 true)) else (laws_FnExactFarthestByFlips.j1 kj8 a0 l1 t379 t380 t381 t387 true)))) = some r := H
      have A32 := Aside0.mk A320
      clear A320
      have HC33 := Aside0.mk H
      clear H
      go_upto_region 14 with (first | ((with_reducible refine gate_callee (f := 11) rfl ?_); refine goesL_ (some 57) rfl rfl Tryd.func11 (by kernel_rfl) rfl #[.slice A1 l1.length c1] rfl amp_ ?_; (with_reducible refine (laws_toDiagonalS.calls kj8 _ _ l1 t393 _ ?side1 ?side2 A29.out).mono ?_); (case side1 => exact cd_ (Kd.C_below HR1.out HB.out)); (case side2 => exact HC1.out); rintro e w34 ⟨v394, rfl, ho0, hb⟩; refine ⟨_, rfl, ?_⟩; have HO395 := Aside0.mk (Kd.R_lower (Kd.R_new' (Kd.R_new' (Kd.R_new' ho0 (Kd.R_lt (ra_ HO_6.out))) (Kd.R_lt (ra_ HO_9.out))) (Kd.R_lt (ra_ HO_10.out))) (below_size blw_)); replace HO_6 := Aside0.mk (Kd.R_elder' (ra_ HO_6.out) (Kd.R_base ho0) hb); replace HO_9 := Aside0.mk (Kd.R_elder' (ra_ HO_9.out) (Kd.R_base ho0) hb); replace HO_10 := Aside0.mk (Kd.R_elder' (ra_ HO_10.out) (Kd.R_base ho0) hb); replace HB := Aside0.mk (below_step blw_ hb); (try clear hb); (try clear hb2); (try clear hk); (try clear hi); (try clear ho0); obtain ⟨Ao35, co35, eo35⟩ := Kd.R_slice HO395.out; subst eo35) | ((with_reducible refine gate_callee (f := 13) rfl ?_); refine goesL_ (some 58) rfl rfl Tryd.func13 (by kernel_rfl) rfl #[.slice Ao14 t384.length co14, .slice Ao35 t393.length co35] rfl amp_ ?_; (with_reducible refine (laws_eqDiagonalS.calls kj8 _ _ t384 _ _ t393 true _ ?side1 ?side2 ?side3 ?side4 A30.out).mono ?_); (case side1 => exact cd_ (Kd.R_reads' HO_9.out).2.2); (case side2 => exact (Kd.R_reads' HO_9.out).2.1); (case side3 => exact cd_ (Kd.R_reads' HO395.out).2.2); (case side4 => exact (Kd.R_reads' HO395.out).2.1); rintro e w36 ⟨rfl, hb⟩; refine ⟨_, rfl, ?_⟩; replace HO_6 := Aside0.mk (Kd.R_below (ra_ HO_6.out) hb); replace HO_9 := Aside0.mk (Kd.R_below (ra_ HO_9.out) hb); replace HO_10 := Aside0.mk (Kd.R_below (ra_ HO_10.out) hb); replace HO395 := Aside0.mk (Kd.R_below (ra_ HO395.out) hb); replace HB := Aside0.mk (below_step blw_ hb); (try clear hb); (try clear hb2); (try clear hk); (try clear hi)) | ((with_reducible refine gate_callee (f := 16) rfl ?_); refine goesL_ (some 62) rfl rfl Tryd.func16 (by kernel_rfl) rfl #[.slice Ao14 t384.length co14, .int .i64 1] rfl amp_ ?_; (with_reducible refine (laws_markDiagonalS.calls kj8 (fun k_ => some k_ = (.slice Ao14 t384.length co14 : Value).ownBlock) (.slice Ao14 t384.length co14) t384 1 t397 t398 w _ ?side1 ?side2 A32.out).mono ?_); (case side1 => repeat (first | (with_reducible first | exact HB.out | apply below_alloc | apply pw_below_drewN | apply below_drew1) | exact HB.out)); (case side2 => exact Kd.R_tight rfl HO_9.out); rintro e w37 ⟨rfl, hy0, hb, hkp⟩; refine ⟨_, rfl, ?_⟩; replace HO_6 := Aside0.mk (Kd.R_mono (ok' := fun k_ => some k_ ≠ (.slice Ao14 t384.length co14 : Value).ownBlock ∧ some k_ ≠ (v390 : Value).ownBlock ∧ some k_ ≠ (.slice Ao35 t393.length co35 : Value).ownBlock) (Kd.R_keptB (HO_6.out) hkp (fun k_ hk_ hs_ => (hk_.1.1) hs_)) (fun k_ hk_ => ⟨hk_.1.1.1, hk_.1.1.2, hk_.1.2⟩)); replace HO_9 := Aside0.mk (Kd.R_reok rfl hy0 (fun k_ e_ => HO_9.out.1 k_ e_)); replace HO_10 := Aside0.mk (Kd.R_mono (ok' := fun k_ => some k_ ≠ (v382 : Value).ownBlock ∧ some k_ ≠ (.slice Ao14 t384.length co14 : Value).ownBlock ∧ some k_ ≠ (.slice Ao35 t393.length co35 : Value).ownBlock) (Kd.R_keptB (HO_10.out) hkp (fun k_ hk_ hs_ => (hk_.1.2) hs_)) (fun k_ hk_ => ⟨hk_.1.1.1, hk_.1.1.2, hk_.1.2⟩)); replace HO395 := Aside0.mk (Kd.R_mono (ok' := fun k_ => some k_ ≠ (v382 : Value).ownBlock ∧ some k_ ≠ (.slice Ao14 t384.length co14 : Value).ownBlock ∧ some k_ ≠ (v390 : Value).ownBlock) (Kd.R_keptB (HO395.out) hkp (fun k_ hk_ hs_ => (hk_.1.2) hs_)) (fun k_ hk_ => ⟨hk_.1.1.1.2, hk_.1.1.2, hk_.1.2⟩)); replace HB := Aside0.mk (hb); (try clear hb); (try clear hkp); (try clear hy0)))
      (try simp only [Act.put, List.setIfInBounds_toArray, List.set_cons_zero, List.set_cons_succ])
      go_cut [80] (fun v80 wc => ∃ (kq : Nat) (x80_32 : Bool), v80 = .bool x80_32 ∧ Aside0 (laws_FnExactFarthestByFlips.j1 kq a0 l1 t379 t380 t381 t387 x80_32 = some r) ∧ Aside0 (kq ≤ kj8) ∧ Aside0 (Kd.R k49 49 wc w.heap.size (fun k_ => some k_ ≠ (v390 : Value).ownBlock) v382 t379) ∧ Aside0 (Kd.R k49 49 wc w.heap.size (fun k_ => some k_ ≠ (v382 : Value).ownBlock) v390 t387) ∧ Aside0 (Below w.heap.size w wc))
      case first =>
       have H := HC33.out
       clear HC33
       by_cases c38 : t397 < 0
       ·rw [if_pos c38] at H
        have c38b0 : decide (t397 < 0) = true := decide_eq_true c38
        clear c38
        (first | rw [c38b0] | (simp only [i64_w, i32_w]; rw [c38b0]) | skip)
        have H' := Aside0.mk H
        clear H
        go_wp2
        go_meet
        case rel => exact ⟨_, (true), rsd_, H', ⟨by have := HJ8.out; first | omega | exact Nat.le_refl _⟩, ⟨by (with_reducible repeat (first | apply Kd.R_alloc | apply Kd.R_drewN | apply Kd.R_drew)); exact Kd.R_mono HO_6.out (fun _ hk => hk.2.1)⟩, ⟨by (with_reducible repeat (first | apply Kd.R_alloc | apply Kd.R_drewN | apply Kd.R_drew)); exact Kd.R_mono HO_10.out (fun _ hk => hk.1)⟩, ⟨blw_⟩⟩
       ·rw [if_neg c38] at H
        have c38b0 : decide (t397 < 0) = false := decide_eq_false c38
        clear c38
        (first | rw [c38b0] | (simp only [i64_w, i32_w]; rw [c38b0]) | skip)
        replace H := Option.bind_eq_some_iff.mp H
        obtain ⟨t399, A390, H⟩ := H
        replace H : (if t399 = true then (if t388 = t380 then (laws_FnExactFarthestByFlips.j1 kj8 a0 l1 t379 t380 t381 t387 (t389 != t381)) else (laws_FnExactFarthestByFlips.j1 kj8 a0 l1 t379 t380 t381 t387 true)) else (laws_FnExactFarthestByFlips.j1 kj8 a0 l1 t379 t380 t381 t387 true)) = some r := H
        have A39 := Aside0.mk A390
        clear A390
        by_cases c40 : t399 = true
        ·subst c40
         replace H : (if t388 = t380 then (laws_FnExactFarthestByFlips.j1 kj8 a0 l1 t379 t380 t381 t387 (t389 != t381)) else (laws_FnExactFarthestByFlips.j1 kj8 a0 l1 t379 t380 t381 t387 true)) = some r := by rw [if_pos rfl] at H; exact H
         by_cases c41 : t388 = t380
         ·rw [if_pos c41] at H
          have c41b0 : (t388 == t380) = true := beq_iff_eq.mpr c41
          have c41b1 : (t388 != t380) = false := bne_eq_false_iff_eq.mpr c41
          clear c41
          have H' := Aside0.mk H
          clear H
          obtain ⟨Ao42, co42, eo42⟩ := Kd.R_slice HO_10.out
          subst eo42
          obtain ⟨Ao43, co43, eo43⟩ := Kd.R_slice HO_6.out
          subst eo43
          go_wp2_with (first | (go_at_call 13; (with_reducible refine (laws_eqDiagonalS.calls kj8 _ _ t387 _ _ t379 true _ ?side1 ?side2 ?side3 ?side4 A39.out).mono ?_); (case side1 => exact cd_ (Kd.R_reads' HO_10.out).2.2); (case side2 => exact (Kd.R_reads' HO_10.out).2.1); (case side3 => exact cd_ (Kd.R_reads' HO_6.out).2.2); (case side4 => exact (Kd.R_reads' HO_6.out).2.1); rintro e w44 ⟨rfl, hb⟩; replace HO_6 := Aside0.mk (Kd.R_below (ra_ HO_6.out) hb); replace HO_9 := Aside0.mk (Kd.R_below (ra_ HO_9.out) hb); replace HO_10 := Aside0.mk (Kd.R_below (ra_ HO_10.out) hb); replace HO395 := Aside0.mk (Kd.R_below (ra_ HO395.out) hb); replace HB := Aside0.mk (below_step blw_ hb); (try clear hb); (try clear hb2); (try clear hk); (try clear hi)))
          go_meet
          case rel => exact ⟨_, ((t389 != t381)), rsd_, H', ⟨by have := HJ8.out; first | omega | exact Nat.le_refl _⟩, ⟨by (with_reducible repeat (first | apply Kd.R_alloc | apply Kd.R_drewN | apply Kd.R_drew)); exact Kd.R_mono HO_6.out (fun _ hk => hk.2.1)⟩, ⟨by (with_reducible repeat (first | apply Kd.R_alloc | apply Kd.R_drewN | apply Kd.R_drew)); exact Kd.R_mono HO_10.out (fun _ hk => hk.1)⟩, ⟨blw_⟩⟩
         ·rw [if_neg c41] at H
          have c41b0 : (t388 == t380) = false := beq_eq_false_iff_ne.mpr c41
          have c41b1 : (t388 != t380) = true := bne_iff_ne.mpr c41
          have H' := Aside0.mk H
          clear H
          obtain ⟨Ao45, co45, eo45⟩ := Kd.R_slice HO_10.out
          subst eo45
          obtain ⟨Ao46, co46, eo46⟩ := Kd.R_slice HO_6.out
          subst eo46
          go_wp2_with (first | (go_at_call 13; (with_reducible refine (laws_eqDiagonalS.calls kj8 _ _ t387 _ _ t379 true _ ?side1 ?side2 ?side3 ?side4 A39.out).mono ?_); (case side1 => exact cd_ (Kd.R_reads' HO_10.out).2.2); (case side2 => exact (Kd.R_reads' HO_10.out).2.1); (case side3 => exact cd_ (Kd.R_reads' HO_6.out).2.2); (case side4 => exact (Kd.R_reads' HO_6.out).2.1); rintro e w47 ⟨rfl, hb⟩; replace HO_6 := Aside0.mk (Kd.R_below (ra_ HO_6.out) hb); replace HO_9 := Aside0.mk (Kd.R_below (ra_ HO_9.out) hb); replace HO_10 := Aside0.mk (Kd.R_below (ra_ HO_10.out) hb); replace HO395 := Aside0.mk (Kd.R_below (ra_ HO395.out) hb); replace HB := Aside0.mk (below_step blw_ hb); (try clear hb); (try clear hb2); (try clear hk); (try clear hi)))
          go_meet
          case rel => exact ⟨_, (true), rsd_, H', ⟨by have := HJ8.out; first | omega | exact Nat.le_refl _⟩, ⟨by (with_reducible repeat (first | apply Kd.R_alloc | apply Kd.R_drewN | apply Kd.R_drew)); exact Kd.R_mono HO_6.out (fun _ hk => hk.2.1)⟩, ⟨by (with_reducible repeat (first | apply Kd.R_alloc | apply Kd.R_drewN | apply Kd.R_drew)); exact Kd.R_mono HO_10.out (fun _ hk => hk.1)⟩, ⟨blw_⟩⟩
        ·replace c40 := Bool.eq_false_iff.mpr c40
         subst c40
         replace H : (laws_FnExactFarthestByFlips.j1 kj8 a0 l1 t379 t380 t381 t387 true) = some r := by rw [if_neg (show ¬ (false = true) by decide)] at H; exact H
         have H' := Aside0.mk H
         clear H
         obtain ⟨Ao48, co48, eo48⟩ := Kd.R_slice HO_10.out
         subst eo48
         obtain ⟨Ao49, co49, eo49⟩ := Kd.R_slice HO_6.out
         subst eo49
         go_wp2_with (first | (go_at_call 13; (with_reducible refine (laws_eqDiagonalS.calls kj8 _ _ t387 _ _ t379 false _ ?side1 ?side2 ?side3 ?side4 A39.out).mono ?_); (case side1 => exact cd_ (Kd.R_reads' HO_10.out).2.2); (case side2 => exact (Kd.R_reads' HO_10.out).2.1); (case side3 => exact cd_ (Kd.R_reads' HO_6.out).2.2); (case side4 => exact (Kd.R_reads' HO_6.out).2.1); rintro e w50 ⟨rfl, hb⟩; replace HO_6 := Aside0.mk (Kd.R_below (ra_ HO_6.out) hb); replace HO_9 := Aside0.mk (Kd.R_below (ra_ HO_9.out) hb); replace HO_10 := Aside0.mk (Kd.R_below (ra_ HO_10.out) hb); replace HO395 := Aside0.mk (Kd.R_below (ra_ HO395.out) hb); replace HB := Aside0.mk (below_step blw_ hb); (try clear hb); (try clear hb2); (try clear hk); (try clear hi)))
         go_meet
         case rel => exact ⟨_, (true), rsd_, H', ⟨by have := HJ8.out; first | omega | exact Nat.le_refl _⟩, ⟨by (with_reducible repeat (first | apply Kd.R_alloc | apply Kd.R_drewN | apply Kd.R_drew)); exact Kd.R_mono HO_6.out (fun _ hk => hk.2.1)⟩, ⟨by (with_reducible repeat (first | apply Kd.R_alloc | apply Kd.R_drewN | apply Kd.R_drew)); exact Kd.R_mono HO_10.out (fun _ hk => hk.1)⟩, ⟨blw_⟩⟩
      case rest =>
       clear HC33
       try clear c1
       try clear c2
       try clear p2
       try clear c3
       try clear c4
       try clear c4b0
       try clear c6
       try clear c9
       try clear c11
       try clear c13
       try clear c16
       try clear c17
       try clear c18
       try clear c18b0
       try clear c18b1
       try clear c19
       try clear c28
       try clear c31
       try clear c38
       try clear c38b0
       try clear c40
       try clear c41
       try clear c41b0
       try clear c41b1
       try clear p2
       obtain ⟨kq, x80_32, rfl, HA, HJ32, HO_6, HO_10, HB⟩ := hcut
       cases kq with
       | zero => exact absurd HA.out (by simp [laws_FnExactFarthestByFlips.j1])
       | succ kj32 =>
        have H := HA.out
        clear HA
        simp only [laws_FnExactFarthestByFlips.j1] at H
        by_cases c51 : x80_32 = true
        ·subst c51
         replace H : (some false) = some r := by rw [if_pos rfl] at H; exact H
         exact absurd (H.trans (congrArg some htrue.out)) (by decide)
        ·replace c51 := Bool.eq_false_iff.mpr c51
         subst c51
         replace H : ((laws_markDiagonalS.f kj32 t387 1).bind fun bt400 => ((laws_heldDiagonalS.f kj32 bt400.2 1).bind fun t402 => (if t402 < 0 then (some false) else (if t402 = bt400.1 then ((laws_toDiagonalS.f kj32 l1).bind fun t403 => ((impl_FarthestByFlips.f kj32 a0 t403).bind fun bt406 => ((laws_eqDiagonalS.f kj32 bt406.1 t379).bind fun t411 => (if t411 = true then (if bt406.2.1 = t380 then (laws_FnExactFarthestByFlips.j2 kj32 bt400.2 bt400.1 (bt406.2.2 != t381)) else (laws_FnExactFarthestByFlips.j2 kj32 bt400.2 bt400.1 true)) else (laws_FnExactFarthestByFlips.j2 kj32 bt400.2 bt400.1 true))))) else (some false))))) = some r := by rw [if_neg (show ¬ (false = true) by decide)] at H; exact H
         replace H := Option.bind_eq_some_iff.mp H
         obtain ⟨⟨t400, t401⟩, A520, H⟩ := H
         replace H : ((laws_heldDiagonalS.f kj32 t401 1).bind fun t402 => (if t402 < 0 then (some false) else (if t402 = t400 then ((laws_toDiagonalS.f kj32 l1).bind fun t403 => ((impl_FarthestByFlips.f kj32 a0 t403).bind fun bt406 => ((laws_eqDiagonalS.f kj32 bt406.1 t379).bind fun t411 => (if t411 = true then (if bt406.2.1 = t380 then (laws_FnExactFarthestByFlips.j2 kj32 t401 t400 (bt406.2.2 != t381)) else (laws_FnExactFarthestByFlips.j2 kj32 t401 t400 true)) else (laws_FnExactFarthestByFlips.j2 kj32 t401 t400 true))))) else (some false)))) = some r := H
         have A52 := Aside0.mk A520
         clear A520
         replace H := Option.bind_eq_some_iff.mp H
         obtain ⟨t402, A530, H⟩ := H
         replace H : (if t402 < 0 then (some false) else (if t402 = t400 then ((laws_toDiagonalS.f kj32 l1).bind fun t403 => ((impl_FarthestByFlips.f kj32 a0 t403).bind fun bt406 => ((laws_eqDiagonalS.f kj32 bt406.1 t379).bind fun t411 => (if t411 = true then (if bt406.2.1 = t380 then (laws_FnExactFarthestByFlips.j2 kj32 t401 t400 (bt406.2.2 != t381)) else (laws_FnExactFarthestByFlips.j2 kj32 t401 t400 true)) else (laws_FnExactFarthestByFlips.j2 kj32 t401 t400 true))))) else (some false))) = some r := H
         have A53 := Aside0.mk A530
         clear A530
         by_cases c54 : t402 < 0
         ·rw [if_pos c54] at H
          have c54b0 : decide (t402 < 0) = true := decide_eq_true c54
          clear c54
          exact absurd (H.trans (congrArg some htrue.out)) (by decide)
         ·rw [if_neg c54] at H
          have c54b0 : decide (t402 < 0) = false := decide_eq_false c54
          clear c54
          by_cases c55 : t402 = t400
          ·rw [if_pos c55] at H
           have c55b0 : (t402 == t400) = true := beq_iff_eq.mpr c55
           have c55b1 : (t402 != t400) = false := bne_eq_false_iff_eq.mpr c55
           clear c55
           replace H := Option.bind_eq_some_iff.mp H
           obtain ⟨t403, A560, H⟩ := H
           replace H : ((impl_FarthestByFlips.f kj32 a0 t403).bind fun bt406 => ((laws_eqDiagonalS.f kj32 bt406.1 t379).bind fun t411 => (if t411 = true then (if bt406.2.1 = t380 then (laws_FnExactFarthestByFlips.j2 kj32 t401 t400 (bt406.2.2 != t381)) else (laws_FnExactFarthestByFlips.j2 kj32 t401 t400 true)) else (laws_FnExactFarthestByFlips.j2 kj32 t401 t400 true)))) = some r := H
           have A56 := Aside0.mk A560
           clear A560
           replace H := Option.bind_eq_some_iff.mp H
           obtain ⟨⟨t406, t407, t408⟩, A570, H⟩ := H
           replace H : ((laws_eqDiagonalS.f kj32 t406 t379).bind fun t411 => (if t411 = true then (if t407 = t380 then (laws_FnExactFarthestByFlips.j2 kj32 t401 t400 (t408 != t381)) else (laws_FnExactFarthestByFlips.j2 kj32 t401 t400 true)) else (laws_FnExactFarthestByFlips.j2 kj32 t401 t400 true))) = some r := H
           have A57 := Aside0.mk A570
           clear A570
           have HC58 := Aside0.mk H
           clear H
           obtain ⟨Ao59, co59, eo59⟩ := Kd.R_slice HO_10.out
           subst eo59
           go_upto_region 25 with (first | ((with_reducible refine gate_callee (f := 16) rfl ?_); refine goesL_ (some 83) rfl rfl Tryd.func16 (by kernel_rfl) rfl #[.slice Ao59 t387.length co59, .int .i64 1] rfl amp_ ?_; (with_reducible refine (laws_markDiagonalS.calls kj32 (fun k_ => some k_ = (.slice Ao59 t387.length co59 : Value).ownBlock) (.slice Ao59 t387.length co59) t387 1 t400 t401 w _ ?side1 ?side2 A52.out).mono ?_); (case side1 => repeat (first | (with_reducible first | exact HB.out | apply below_alloc | apply pw_below_drewN | apply below_drew1) | exact HB.out)); (case side2 => exact Kd.R_tight rfl HO_10.out); rintro e w60 ⟨rfl, hy0, hb, hkp⟩; refine ⟨_, rfl, ?_⟩; replace HO_6 := Aside0.mk (Kd.R_mono (ok' := fun k_ => some k_ ≠ (.slice Ao59 t387.length co59 : Value).ownBlock) (Kd.R_keptB (HO_6.out) hkp (fun k_ hk_ hs_ => (hk_) hs_)) (fun k_ hk_ => hk_.1)); replace HO_10 := Aside0.mk (Kd.R_reok rfl hy0 (fun k_ e_ => HO_10.out.1 k_ e_)); replace HB := Aside0.mk (hb); (try clear hb); (try clear hkp); (try clear hy0)) | ((with_reducible refine gate_callee (f := 17) rfl ?_); refine goesL_ (some 86) rfl rfl Tryd.func17 (by kernel_rfl) rfl #[.slice Ao59 t401.length co59, .int .i64 1] rfl (by (try simp only [List.map_toArray, List.map_cons, List.map_nil]); first | done | (rw [show t401.length = t387.length from (Kd.R_reads' HO_10.out).1.symm] <;> rfl) | rfl | (simp only [List.length_drop, List.length_take]; rfl)) ?_; (with_reducible refine (laws_heldDiagonalS.calls kj32 _ _ t401 1 t402 _ ?side1 ?side2 A53.out).mono ?_); (case side1 => exact cd_ (Kd.R_reads' HO_10.out).2.2); (case side2 => rw [show t401.length = t387.length from (Kd.R_reads' HO_10.out).1.symm]; exact (Kd.R_reads' HO_10.out).2.1); rintro e w' ⟨rfl, ⟨nd, rfl⟩⟩; refine ⟨_, rfl, ?_⟩) | ((with_reducible refine gate_callee (f := 11) rfl ?_); refine goesL_ (some 95) rfl rfl Tryd.func11 (by kernel_rfl) rfl #[.slice A1 l1.length c1] rfl amp_ ?_; (with_reducible refine (laws_toDiagonalS.calls kj32 _ _ l1 t403 _ ?side1 ?side2 A56.out).mono ?_); (case side1 => exact cd_ (Kd.C_below HR1.out blw_)); (case side2 => exact HC1.out); rintro e w61 ⟨v404, rfl, ho0, hb⟩; refine ⟨_, rfl, ?_⟩; have HO405 := Aside0.mk (Kd.R_lower (Kd.R_new' (Kd.R_new' ho0 (Kd.R_lt (ra_ HO_6.out))) (Kd.R_lt (ra_ HO_10.out))) (below_size blw_)); replace HO_6 := Aside0.mk (Kd.R_elder' (ra_ HO_6.out) (Kd.R_base ho0) hb); replace HO_10 := Aside0.mk (Kd.R_elder' (ra_ HO_10.out) (Kd.R_base ho0) hb); replace HB := Aside0.mk (below_step blw_ hb); (try clear hb); (try clear hb2); (try clear hk); (try clear hi); (try clear ho0); obtain ⟨Ao62, co62, eo62⟩ := Kd.R_slice HO405.out; subst eo62) | ((with_reducible refine gate_callee (f := 19) rfl ?_); refine goesL_ (some 96) rfl rfl Tryd.func19 (by kernel_rfl) rfl #[.int .i64 a0, .slice Ao62 t403.length co62] rfl amp_ ?_; (with_reducible refine (impl_FarthestByFlips.calls kj32 a0 _ _ t403 t406 t407 t408 _ ?side1 ?side2 A57.out (HTAB.out.below blw_)).mono ?_); (case side1 => exact cd_ (Kd.R_reads' HO405.out).2.2); (case side2 => exact (Kd.R_reads' HO405.out).2.1); rintro e w63 ⟨v409, rfl, ho0, hb⟩; refine ⟨_, rfl, ?_⟩; have HO410 := Aside0.mk (Kd.R_lower (Kd.R_new' (Kd.R_new' (Kd.R_new' ho0 (Kd.R_lt (ra_ HO_6.out))) (Kd.R_lt (ra_ HO_10.out))) (Kd.R_lt (ra_ HO405.out))) (below_size blw_)); replace HO_6 := Aside0.mk (Kd.R_elder' (ra_ HO_6.out) (Kd.R_base ho0) hb); replace HO_10 := Aside0.mk (Kd.R_elder' (ra_ HO_10.out) (Kd.R_base ho0) hb); replace HO405 := Aside0.mk (Kd.R_elder' (ra_ HO405.out) (Kd.R_base ho0) hb); replace HB := Aside0.mk (below_step blw_ hb); (try clear hb); (try clear hb2); (try clear hk); (try clear hi); (try clear ho0)))
           (try simp only [Act.put, List.setIfInBounds_toArray, List.set_cons_zero, List.set_cons_succ])
           go_cut [113] (fun v113 wc => ∃ (kq : Nat) (x113_57 : Bool), v113 = .bool x113_57 ∧ Aside0 (laws_FnExactFarthestByFlips.j2 kq t401 t400 x113_57 = some r) ∧ Aside0 (kq ≤ kj32) ∧ Aside0 (Kd.R k49 49 wc w.heap.size (fun _ => True) (.slice Ao59 t387.length co59) t401) ∧ Aside0 (Below w.heap.size w wc))
           case first =>
            have H := HC58.out
            clear HC58
            replace H := Option.bind_eq_some_iff.mp H
            obtain ⟨t411, A640, H⟩ := H
            replace H : (if t411 = true then (if t407 = t380 then (laws_FnExactFarthestByFlips.j2 kj32 t401 t400 (t408 != t381)) else (laws_FnExactFarthestByFlips.j2 kj32 t401 t400 true)) else (laws_FnExactFarthestByFlips.j2 kj32 t401 t400 true)) = some r := H
            have A64 := Aside0.mk A640
            clear A640
            by_cases c65 : t411 = true
            ·subst c65
             replace H : (if t407 = t380 then (laws_FnExactFarthestByFlips.j2 kj32 t401 t400 (t408 != t381)) else (laws_FnExactFarthestByFlips.j2 kj32 t401 t400 true)) = some r := by rw [if_pos rfl] at H; exact H
             by_cases c66 : t407 = t380
             ·rw [if_pos c66] at H
              have c66b0 : (t407 == t380) = true := beq_iff_eq.mpr c66
              have c66b1 : (t407 != t380) = false := bne_eq_false_iff_eq.mpr c66
              clear c66
              (first | rw [c66b0] | (simp only [i64_w, i32_w]; rw [c66b0]) | skip)
              have H' := Aside0.mk H
              clear H
              obtain ⟨Ao67, co67, eo67⟩ := Kd.R_slice HO410.out
              subst eo67
              obtain ⟨Ao68, co68, eo68⟩ := Kd.R_slice HO_6.out
              subst eo68
              go_wp2_with (first | ((with_reducible refine gate_callee (f := 13) rfl ?_); refine goesL_ (some 102) rfl rfl Tryd.func13 (by kernel_rfl) rfl #[.slice Ao67 t406.length co67, .slice Ao68 t379.length co68] rfl amp_ ?_; (with_reducible refine (laws_eqDiagonalS.calls kj32 _ _ t406 _ _ t379 true _ ?side1 ?side2 ?side3 ?side4 A64.out).mono ?_); (case side1 => exact cd_ (Kd.R_reads' HO410.out).2.2); (case side2 => exact (Kd.R_reads' HO410.out).2.1); (case side3 => exact cd_ (Kd.R_reads' HO_6.out).2.2); (case side4 => exact (Kd.R_reads' HO_6.out).2.1); rintro e w69 ⟨rfl, hb⟩; refine ⟨_, rfl, ?_⟩; replace HO_6 := Aside0.mk (Kd.R_below (ra_ HO_6.out) hb); replace HO_10 := Aside0.mk (Kd.R_below (ra_ HO_10.out) hb); replace HO405 := Aside0.mk (Kd.R_below (ra_ HO405.out) hb); replace HO410 := Aside0.mk (Kd.R_below (ra_ HO410.out) hb); replace HB := Aside0.mk (below_step blw_ hb); (try clear hb); (try clear hb2); (try clear hk); (try clear hi)))
              go_meet
              case rel => exact ⟨_, ((t408 != t381)), rsd_, H', ⟨by have := HJ8.out; have := HJ32.out; first | omega | exact Nat.le_refl _⟩, ⟨by (with_reducible repeat (first | apply Kd.R_alloc | apply Kd.R_drewN | apply Kd.R_drew)); exact Kd.R_mono HO_10.out (fun _ hk => trivial)⟩, ⟨blw_⟩⟩
             ·rw [if_neg c66] at H
              have c66b0 : (t407 == t380) = false := beq_eq_false_iff_ne.mpr c66
              have c66b1 : (t407 != t380) = true := bne_iff_ne.mpr c66
              (first | rw [c66b0] | (simp only [i64_w, i32_w]; rw [c66b0]) | skip)
              have H' := Aside0.mk H
              clear H
              obtain ⟨Ao70, co70, eo70⟩ := Kd.R_slice HO410.out
              subst eo70
              obtain ⟨Ao71, co71, eo71⟩ := Kd.R_slice HO_6.out
              subst eo71
              go_wp2_with (first | ((with_reducible refine gate_callee (f := 13) rfl ?_); refine goesL_ (some 102) rfl rfl Tryd.func13 (by kernel_rfl) rfl #[.slice Ao70 t406.length co70, .slice Ao71 t379.length co71] rfl amp_ ?_; (with_reducible refine (laws_eqDiagonalS.calls kj32 _ _ t406 _ _ t379 true _ ?side1 ?side2 ?side3 ?side4 A64.out).mono ?_); (case side1 => exact cd_ (Kd.R_reads' HO410.out).2.2); (case side2 => exact (Kd.R_reads' HO410.out).2.1); (case side3 => exact cd_ (Kd.R_reads' HO_6.out).2.2); (case side4 => exact (Kd.R_reads' HO_6.out).2.1); rintro e w72 ⟨rfl, hb⟩; refine ⟨_, rfl, ?_⟩; replace HO_6 := Aside0.mk (Kd.R_below (ra_ HO_6.out) hb); replace HO_10 := Aside0.mk (Kd.R_below (ra_ HO_10.out) hb); replace HO405 := Aside0.mk (Kd.R_below (ra_ HO405.out) hb); replace HO410 := Aside0.mk (Kd.R_below (ra_ HO410.out) hb); replace HB := Aside0.mk (below_step blw_ hb); (try clear hb); (try clear hb2); (try clear hk); (try clear hi)))
              go_meet
              case rel => exact ⟨_, (true), rsd_, H', ⟨by have := HJ8.out; have := HJ32.out; first | omega | exact Nat.le_refl _⟩, ⟨by (with_reducible repeat (first | apply Kd.R_alloc | apply Kd.R_drewN | apply Kd.R_drew)); exact Kd.R_mono HO_10.out (fun _ hk => trivial)⟩, ⟨blw_⟩⟩
            ·replace c65 := Bool.eq_false_iff.mpr c65
             subst c65
             replace H : (laws_FnExactFarthestByFlips.j2 kj32 t401 t400 true) = some r := by rw [if_neg (show ¬ (false = true) by decide)] at H; exact H
             have H' := Aside0.mk H
             clear H
             obtain ⟨Ao73, co73, eo73⟩ := Kd.R_slice HO410.out
             subst eo73
             obtain ⟨Ao74, co74, eo74⟩ := Kd.R_slice HO_6.out
             subst eo74
             go_wp2_with (first | ((with_reducible refine gate_callee (f := 13) rfl ?_); refine goesL_ (some 102) rfl rfl Tryd.func13 (by kernel_rfl) rfl #[.slice Ao73 t406.length co73, .slice Ao74 t379.length co74] rfl amp_ ?_; (with_reducible refine (laws_eqDiagonalS.calls kj32 _ _ t406 _ _ t379 false _ ?side1 ?side2 ?side3 ?side4 A64.out).mono ?_); (case side1 => exact cd_ (Kd.R_reads' HO410.out).2.2); (case side2 => exact (Kd.R_reads' HO410.out).2.1); (case side3 => exact cd_ (Kd.R_reads' HO_6.out).2.2); (case side4 => exact (Kd.R_reads' HO_6.out).2.1); rintro e w75 ⟨rfl, hb⟩; refine ⟨_, rfl, ?_⟩; replace HO_6 := Aside0.mk (Kd.R_below (ra_ HO_6.out) hb); replace HO_10 := Aside0.mk (Kd.R_below (ra_ HO_10.out) hb); replace HO405 := Aside0.mk (Kd.R_below (ra_ HO405.out) hb); replace HO410 := Aside0.mk (Kd.R_below (ra_ HO410.out) hb); replace HB := Aside0.mk (below_step blw_ hb); (try clear hb); (try clear hb2); (try clear hk); (try clear hi)))
             go_meet
             case rel => exact ⟨_, (true), rsd_, H', ⟨by have := HJ8.out; have := HJ32.out; first | omega | exact Nat.le_refl _⟩, ⟨by (with_reducible repeat (first | apply Kd.R_alloc | apply Kd.R_drewN | apply Kd.R_drew)); exact Kd.R_mono HO_10.out (fun _ hk => trivial)⟩, ⟨blw_⟩⟩
           case rest =>
            clear HC58
            try clear c1
            try clear c2
            try clear p2
            try clear c3
            try clear c4
            try clear c4b0
            try clear c5
            try clear c6
            try clear c9
            try clear c11
            try clear c13
            try clear c16
            try clear c17
            try clear c18
            try clear c18b0
            try clear c18b1
            try clear c19
            try clear c28
            try clear c31
            try clear c38
            try clear c38b0
            try clear c40
            try clear c41
            try clear c41b0
            try clear c41b1
            try clear c51
            try clear c54
            try clear c54b0
            try clear c55
            try clear c55b0
            try clear c55b1
            try clear c65
            try clear c66
            try clear c66b0
            try clear c66b1
            try clear p2
            obtain ⟨kq, x113_57, rfl, HA, HJ57, HO_10, HB⟩ := hcut
            have hl10_57 := (Kd.R_reads' HO_10.out).1
            rw [hl10_57] at HO_10
            (try simp only [hl10_57])
            cases kq with
            | zero => exact absurd HA.out (by simp [laws_FnExactFarthestByFlips.j2])
            | succ kj57 =>
             have H := HA.out
             clear HA
             simp only [laws_FnExactFarthestByFlips.j2] at H
             by_cases c76 : x113_57 = true
             ·subst c76
              replace H : (some false) = some r := by rw [if_pos rfl] at H; exact H
              exact absurd (H.trans (congrArg some htrue.out)) (by decide)
             ·replace c76 := Bool.eq_false_iff.mpr c76
              subst c76
              replace H : ((laws_heldDiagonalS.f kj57 t401 1).bind fun t412 => (if t412 < 0 then (some false) else (if t412 = t400 then (some true) else (some false)))) = some r := by rw [if_neg (show ¬ (false = true) by decide)] at H; exact H
              replace H := Option.bind_eq_some_iff.mp H
              obtain ⟨t412, A770, H⟩ := H
              replace H : (if t412 < 0 then (some false) else (if t412 = t400 then (some true) else (some false))) = some r := H
              have A77 := Aside0.mk A770
              clear A770
              by_cases c78 : t412 < 0
              ·rw [if_pos c78] at H
               have c78b0 : decide (t412 < 0) = true := decide_eq_true c78
               clear c78
               exact absurd (H.trans (congrArg some htrue.out)) (by decide)
              ·rw [if_neg c78] at H
               have c78b0 : decide (t412 < 0) = false := decide_eq_false c78
               clear c78
               by_cases c79 : t412 = t400
               ·rw [if_pos c79] at H
                have c79b0 : (t412 == t400) = true := beq_iff_eq.mpr c79
                have c79b1 : (t412 != t400) = false := bne_eq_false_iff_eq.mpr c79
                clear c79
                obtain rfl := Option.some.inj H
                go_wp2_with (first | ((with_reducible refine gate_callee (f := 17) rfl ?_); refine goesL_ (some 116) rfl rfl Tryd.func17 (by kernel_rfl) rfl #[.slice Ao59 t401.length co59, .int .i64 1] rfl amp_ ?_; (with_reducible refine (laws_heldDiagonalS.calls kj57 _ _ t401 1 t412 _ ?side1 ?side2 A77.out).mono ?_); (case side1 => exact cd_ (Kd.R_reads' HO_10.out).2.2); (case side2 => exact (Kd.R_reads' HO_10.out).2.1); rintro e w' ⟨rfl, ⟨nd, rfl⟩⟩; refine ⟨_, rfl, ?_⟩))
                go_ret
                exact er_
               ·rw [if_neg c79] at H
                have c79b0 : (t412 == t400) = false := beq_eq_false_iff_ne.mpr c79
                have c79b1 : (t412 != t400) = true := bne_iff_ne.mpr c79
                exact absurd (H.trans (congrArg some htrue.out)) (by decide)
          ·rw [if_neg c55] at H
           have c55b0 : (t402 == t400) = false := beq_eq_false_iff_ne.mpr c55
           have c55b1 : (t402 != t400) = true := bne_iff_ne.mpr c55
           exact absurd (H.trans (congrArg some htrue.out)) (by decide)
     ·replace c31 := Bool.eq_false_iff.mpr c31
      subst c31
      replace H : (some false) = some r := by rw [if_neg (show ¬ (false = true) by decide)] at H; exact H
      exact absurd (H.trans (congrArg some htrue.out)) (by decide)

end Go.Proofs.YtgblginphicacaaDoor.PFnExactFarthestByFlips
