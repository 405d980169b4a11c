-- WRITTEN BY A PROGRAM OF THIS WORK (wip/tools/ppatch.py) for this claim.
import Derived.Test.YtnjejmfnacpdoaaPFnExactFractionsOfx0
import Derived.Test.YtnjejmfnacpdoaaPFnExactFractionsOfx1
import Derived.Test.YtnjejmfnacpdoaaPFnExactFractionsOfx2
import Derived.Test.YtnjejmfnacpdoaaPFnExactFractionsOfx5
import Derived.Test.YtnjejmfnacpdoaaPFnExactFractionsOfx11
namespace Go.Proofs.Ytnjejmfnacpdoaa.PFnExactFractionsOf
open Go.RowKit Go.Proofs.YtnjejmfnacpdoaaW.PrintWords Go.Proofs.YtnjejmfnacpdoaaW.PrintLast Go.Proofs.YtnjejmfnacpdoaaW.PrintMore
attribute [local go_sem] max2_int min2_int max_two min_two max_three min_three max_four min_four   -- for this text's walks alone
set_option linter.unusedVariables false
set_option linter.unusedSimpArgs false

/-! ### laws_FnExactFractionsOf: function 8 -/
mutual
def laws_FnExactFractionsOf.j0 : Nat → List Int → List (S32) → Bool → List Int → List (S32) → Bool → Bool → Option (Bool)
 | 0, _, _, _, _, _, _, _ => none
 | k + 1, x0, x3, x4, x5, x6, x7, x37 => if x37 = true then (some false) else ((laws_toIntS.f k x0).bind fun t408 => ((laws_eqIntS.f k x5 t408).bind fun t411 => (if t411 = true then ((laws_markIntS.f k x5 1).bind fun bt412 => (if bt412.1 < 0 then (laws_FnExactFractionsOf.j1 k x0 x3 x4 x6 true) else ((laws_eqFractionS.f k x6 x3).bind fun t414 => (if t414 = true then (laws_FnExactFractionsOf.j1 k x0 x3 x4 x6 (x7 != x4)) else (laws_FnExactFractionsOf.j1 k x0 x3 x4 x6 true))))) else (some false))))
def laws_FnExactFractionsOf.j1 : Nat → List Int → List (S32) → Bool → List (S32) → Bool → Option (Bool)
 | 0, _, _, _, _, _ => none
 | k + 1, x0, x3, x4, x6, x58 => if x58 = true then (some false) else ((laws_markFractionS.f k x6 1).bind fun bt415 => ((laws_heldFractionS.f k bt415.2 1).bind fun t417 => (if t417 < 0 then (some false) else (if t417 = bt415.1 then ((laws_toIntS.f k x0).bind fun t418 => ((impl_FractionsOf.f k t418).bind fun bt421 => ((laws_eqFractionS.f k bt421.1 x3).bind fun t425 => (if t425 = true then (laws_FnExactFractionsOf.j2 k bt415.2 bt415.1 (bt421.2 != x4)) else (laws_FnExactFractionsOf.j2 k bt415.2 bt415.1 true))))) else (some false)))))
def laws_FnExactFractionsOf.j2 : Nat → List (S32) → Int → Bool → Option (Bool)
 | 0, _, _, _ => none
 | k + 1, x6, x9, x84 => if x84 = true then (some false) else ((laws_heldFractionS.f k x6 1).bind fun t426 => (if t426 < 0 then (some false) else (if t426 = x9 then (some true) else (some false))))
end
def laws_FnExactFractionsOf.f (k : Nat) (l0 : List Int) : Option (Bool) := if (l0.length : Int) > 1048576 then (some true) else ((laws_toIntS.f k l0).bind fun t393 => ((spec_FractionsOf.f k t393).bind fun bt396 => ((laws_toIntS.f k l0).bind fun t400 => ((impl_FractionsOf.f k t400).bind fun bt403 => ((laws_eqFractionS.f k bt403.1 bt396.1).bind fun t407 => (if t407 = true then (laws_FnExactFractionsOf.j0 k l0 bt396.1 bt396.2 t400 bt403.1 bt403.2 (bt403.2 != bt396.2)) else (laws_FnExactFractionsOf.j0 k l0 bt396.1 bt396.2 t400 bt403.1 bt403.2 true)))))))
theorem laws_FnExactFractionsOf.mono_l : ∀ k, (∀ y0 y1 y2 y3 y4 y5 y6, LeO (laws_FnExactFractionsOf.j0 k y0 y1 y2 y3 y4 y5 y6) (laws_FnExactFractionsOf.j0 (k + 1) y0 y1 y2 y3 y4 y5 y6)) ∧ (∀ y0 y1 y2 y3 y4, LeO (laws_FnExactFractionsOf.j1 k y0 y1 y2 y3 y4) (laws_FnExactFractionsOf.j1 (k + 1) y0 y1 y2 y3 y4)) ∧ (∀ y0 y1 y2, LeO (laws_FnExactFractionsOf.j2 k y0 y1 y2) (laws_FnExactFractionsOf.j2 (k + 1) y0 y1 y2))
 | 0 => ⟨fun _ _ _ _ _ _ _ r h => by simp [laws_FnExactFractionsOf.j0] at h, fun _ _ _ _ _ r h => by simp [laws_FnExactFractionsOf.j1] at h, fun _ _ _ r h => by simp [laws_FnExactFractionsOf.j2] at h⟩
 | k + 1 => by
  obtain ⟨ih0, ih1, ih2⟩ := laws_FnExactFractionsOf.mono_l k
  refine ⟨?_, ?_, ?_⟩
  ·intro y0 y1 y2 y3 y4 y5 y6
   unfold laws_FnExactFractionsOf.j0
   repeat' first
   | (with_reducible exact ih0 _ _ _ _ _ _ _)
   | (with_reducible exact ih1 _ _ _ _ _)
   | (with_reducible exact ih2 _ _ _)
   | (with_reducible exact impl_FractionsOf.mono _ _)
   | (with_reducible exact laws_eqFractionS.mono _ _ _)
   | (with_reducible exact laws_eqIntS.mono _ _ _)
   | (with_reducible exact laws_heldFractionS.mono _ _ _)
   | (with_reducible exact laws_markFractionS.mono _ _ _)
   | (with_reducible exact laws_markIntS.mono _ _ _)
   | (with_reducible exact laws_toIntS.mono _ _)
   | (with_reducible exact spec_FractionsOf.mono _ _)
   | (with_reducible exact LeO.refl _)
   | (with_reducible exact LeO.none _)
   | (with_reducible refine LeO.ite ?_ ?_)
   | (with_reducible refine LeO.bind ?_ (fun _ => ?_))
   | exact ih0 _ _ _ _ _ _ _
   | exact ih1 _ _ _ _ _
   | exact ih2 _ _ _
   | exact impl_FractionsOf.mono _ _
   | exact laws_eqFractionS.mono _ _ _
   | exact laws_eqIntS.mono _ _ _
   | exact laws_heldFractionS.mono _ _ _
   | exact laws_markFractionS.mono _ _ _
   | exact laws_markIntS.mono _ _ _
   | exact laws_toIntS.mono _ _
   | exact spec_FractionsOf.mono _ _
   | exact LeO.none _
   | refine LeO.ite ?_ ?_
   | refine LeO.bind ?_ (fun _ => ?_)
  ·intro y0 y1 y2 y3 y4
   unfold laws_FnExactFractionsOf.j1
   repeat' first
   | (with_reducible exact ih0 _ _ _ _ _ _ _)
   | (with_reducible exact ih1 _ _ _ _ _)
   | (with_reducible exact ih2 _ _ _)
   | (with_reducible exact impl_FractionsOf.mono _ _)
   | (with_reducible exact laws_eqFractionS.mono _ _ _)
   | (with_reducible exact laws_eqIntS.mono _ _ _)
   | (with_reducible exact laws_heldFractionS.mono _ _ _)
   | (with_reducible exact laws_markFractionS.mono _ _ _)
   | (with_reducible exact laws_markIntS.mono _ _ _)
   | (with_reducible exact laws_toIntS.mono _ _)
   | (with_reducible exact spec_FractionsOf.mono _ _)
   | (with_reducible exact LeO.refl _)
   | (with_reducible exact LeO.none _)
   | (with_reducible refine LeO.ite ?_ ?_)
   | (with_reducible refine LeO.bind ?_ (fun _ => ?_))
   | exact ih0 _ _ _ _ _ _ _
   | exact ih1 _ _ _ _ _
   | exact ih2 _ _ _
   | exact impl_FractionsOf.mono _ _
   | exact laws_eqFractionS.mono _ _ _
   | exact laws_eqIntS.mono _ _ _
   | exact laws_heldFractionS.mono _ _ _
   | exact laws_markFractionS.mono _ _ _
   | exact laws_markIntS.mono _ _ _
   | exact laws_toIntS.mono _ _
   | exact spec_FractionsOf.mono _ _
   | exact LeO.none _
   | refine LeO.ite ?_ ?_
   | refine LeO.bind ?_ (fun _ => ?_)
  ·intro y0 y1 y2
   unfold laws_FnExactFractionsOf.j2
   repeat' first
   | (with_reducible exact ih0 _ _ _ _ _ _ _)
   | (with_reducible exact ih1 _ _ _ _ _)
   | (with_reducible exact ih2 _ _ _)
   | (with_reducible exact impl_FractionsOf.mono _ _)
   | (with_reducible exact laws_eqFractionS.mono _ _ _)
   | (with_reducible exact laws_eqIntS.mono _ _ _)
   | (with_reducible exact laws_heldFractionS.mono _ _ _)
   | (with_reducible exact laws_markFractionS.mono _ _ _)
   | (with_reducible exact laws_markIntS.mono _ _ _)
   | (with_reducible exact laws_toIntS.mono _ _)
   | (with_reducible exact spec_FractionsOf.mono _ _)
   | (with_reducible exact LeO.refl _)
   | (with_reducible exact LeO.none _)
   | (with_reducible refine LeO.ite ?_ ?_)
   | (with_reducible refine LeO.bind ?_ (fun _ => ?_))
   | exact ih0 _ _ _ _ _ _ _
   | exact ih1 _ _ _ _ _
   | exact ih2 _ _ _
   | exact impl_FractionsOf.mono _ _
   | exact laws_eqFractionS.mono _ _ _
   | exact laws_eqIntS.mono _ _ _
   | exact laws_heldFractionS.mono _ _ _
   | exact laws_markFractionS.mono _ _ _
   | exact laws_markIntS.mono _ _ _
   | exact laws_toIntS.mono _ _
   | exact spec_FractionsOf.mono _ _
   | exact LeO.none _
   | refine LeO.ite ?_ ?_
   | refine LeO.bind ?_ (fun _ => ?_)
theorem laws_FnExactFractionsOf.mono : ∀ a0 k, LeO (laws_FnExactFractionsOf.f k a0) (laws_FnExactFractionsOf.f (k + 1) a0) := by
 intro a0 k
 obtain ⟨ih0, ih1, ih2⟩ := laws_FnExactFractionsOf.mono_l k
 unfold laws_FnExactFractionsOf.f
 repeat' first
   | (with_reducible exact ih0 _ _ _ _ _ _ _)
   | (with_reducible exact ih1 _ _ _ _ _)
   | (with_reducible exact ih2 _ _ _)
   | (with_reducible exact impl_FractionsOf.mono _ _)
   | (with_reducible exact laws_eqFractionS.mono _ _ _)
   | (with_reducible exact laws_eqIntS.mono _ _ _)
   | (with_reducible exact laws_heldFractionS.mono _ _ _)
   | (with_reducible exact laws_markFractionS.mono _ _ _)
   | (with_reducible exact laws_markIntS.mono _ _ _)
   | (with_reducible exact laws_toIntS.mono _ _)
   | (with_reducible exact spec_FractionsOf.mono _ _)
   | (with_reducible exact LeO.refl _)
   | (with_reducible exact LeO.none _)
   | (with_reducible refine LeO.ite ?_ ?_)
   | (with_reducible refine LeO.bind ?_ (fun _ => ?_))
   | exact ih0 _ _ _ _ _ _ _
   | exact ih1 _ _ _ _ _
   | exact ih2 _ _ _
   | exact impl_FractionsOf.mono _ _
   | exact laws_eqFractionS.mono _ _ _
   | exact laws_eqIntS.mono _ _ _
   | exact laws_heldFractionS.mono _ _ _
   | exact laws_markFractionS.mono _ _ _
   | exact laws_markIntS.mono _ _ _
   | exact laws_toIntS.mono _ _
   | exact spec_FractionsOf.mono _ _
   | exact LeO.none _
   | refine LeO.ite ?_ ?_
   | refine LeO.bind ?_ (fun _ => ?_)
set_option maxHeartbeats 8000000 in
set_option maxRecDepth 100000 in
theorem laws_FnExactFractionsOf.calls (k : Nat) (A0 : Option Addr) (c0 : Nat) (l0 : List Int) (r : Bool) (w : World) (hr0 : Kd.C (Kd.int .i64) w A0 l0.length l0) (hc0 : l0.length ≤ c0) (h : laws_FnExactFractionsOf.f k l0 = some r) (htrue : Aside0 (r = true) := by exact ⟨rfl⟩) :
  Calls Try.prog 8 #[.slice A0 l0.length c0] w fun e w' => e = .returned (.bool r) ∧ Below w.heap.size w w' := by
 have HR0 := Aside0.mk hr0
 have HC0 := Aside0.mk hc0
 clear hr0 hc0
 have HB := Aside0.mk (Below.refl w.heap.size w)
 have H : (if (l0.length : Int) > 1048576 then (some true) else ((laws_toIntS.f k l0).bind fun t393 => ((spec_FractionsOf.f k t393).bind fun bt396 => ((laws_toIntS.f k l0).bind fun t400 => ((impl_FractionsOf.f k t400).bind fun bt403 => ((laws_eqFractionS.f k bt403.1 bt396.1).bind fun t407 => (if t407 = true then (laws_FnExactFractionsOf.j0 k l0 bt396.1 bt396.2 t400 bt403.1 bt403.2 (bt403.2 != bt396.2)) else (laws_FnExactFractionsOf.j0 k l0 bt396.1 bt396.2 t400 bt403.1 bt403.2 true)))))))) = some r := h
 clear h
 by_cases c2 : (l0.length : Int) > 1048576
 ·rw [if_pos c2] at H
  have c2b0 : decide (1048576 < (l0.length : Int)) = true := decide_eq_true c2
  have c2b1 : decide (1048576 < l0.length) = true := decide_eq_true (by omega)
  clear c2
  obtain rfl := Option.some.inj H
  go_enter Try.func8, Try.ntmps8
  go_wp2
  go_ret
  exact ⟨by first | rfl | (simp [errW_none, errW_some] <;> rfl) | (simp [*, errW_none, errW_some] <;> rfl), by repeat (first | (with_reducible first | exact HB.out | apply below_alloc | apply pw_below_drewN | apply below_drew1) | exact HB.out)⟩
 ·rw [if_neg c2] at H
  have c2b0 : decide (1048576 < (l0.length : Int)) = false := decide_eq_false c2
  have c2b1 : decide (1048576 < l0.length) = false := decide_eq_false (by omega)
  clear c2
  replace H := Option.bind_eq_some_iff.mp H
  obtain ⟨t393, A30, H⟩ := H
  replace H : ((spec_FractionsOf.f k t393).bind fun bt396 => ((laws_toIntS.f k l0).bind fun t400 => ((impl_FractionsOf.f k t400).bind fun bt403 => ((laws_eqFractionS.f k bt403.1 bt396.1).bind fun t407 => (if t407 = true then (laws_FnExactFractionsOf.j0 k l0 bt396.1 bt396.2 t400 bt403.1 bt403.2 (bt403.2 != bt396.2)) else (laws_FnExactFractionsOf.j0 k l0 bt396.1 bt396.2 t400 bt403.1 bt403.2 true)))))) = some r := H
  have A3 := Aside0.mk A30
  clear A30
  replace H := Option.bind_eq_some_iff.mp H
  obtain ⟨⟨t396, t397⟩, A40, H⟩ := H
  replace H : ((laws_toIntS.f k l0).bind fun t400 => ((impl_FractionsOf.f k t400).bind fun bt403 => ((laws_eqFractionS.f k bt403.1 t396).bind fun t407 => (if t407 = true then (laws_FnExactFractionsOf.j0 k l0 t396 t397 t400 bt403.1 bt403.2 (bt403.2 != t397)) else (laws_FnExactFractionsOf.j0 k l0 t396 t397 t400 bt403.1 bt403.2 true))))) = some r := H
  have A4 := Aside0.mk A40
  clear A40
  replace H := Option.bind_eq_some_iff.mp H
  obtain ⟨t400, A50, H⟩ := H
  replace H : ((impl_FractionsOf.f k t400).bind fun bt403 => ((laws_eqFractionS.f k bt403.1 t396).bind fun t407 => (if t407 = true then (laws_FnExactFractionsOf.j0 k l0 t396 t397 t400 bt403.1 bt403.2 (bt403.2 != t397)) else (laws_FnExactFractionsOf.j0 k l0 t396 t397 t400 bt403.1 bt403.2 true)))) = some r := H
  have A5 := Aside0.mk A50
  clear A50
  replace H := Option.bind_eq_some_iff.mp H
  obtain ⟨⟨t403, t404⟩, A60, H⟩ := H
  replace H : ((laws_eqFractionS.f k t403 t396).bind fun t407 => (if t407 = true then (laws_FnExactFractionsOf.j0 k l0 t396 t397 t400 t403 t404 (t404 != t397)) else (laws_FnExactFractionsOf.j0 k l0 t396 t397 t400 t403 t404 true))) = some r := H
  have A6 := Aside0.mk A60
  clear A60
  have HC7 := Aside0.mk H
  clear H
  go_enter Try.func8, Try.ntmps8
  go_upto_region 6 with (first | ((with_reducible refine gate_callee (f := 39) rfl ?_); refine goesL_ (some 18) rfl rfl Try.func39 (by kernel_rfl) rfl #[.slice A0 l0.length c0] rfl amp_ ?_; (with_reducible refine (laws_toIntS.calls k _ _ l0 t393 _ ?side1 ?side2 A3.out).mono ?_); (case side1 => repeat (first | exact HR0.out | (with_reducible refine Kd.C_alloc ?_ _) | (with_reducible refine Kd.C_drewN ?_ _) | (with_reducible refine Kd.C_drew ?_))); (case side2 => exact HC0.out); rintro e w8 ⟨v394, rfl, ho0, hb⟩; refine ⟨_, rfl, ?_⟩; have n0_ := Aside0.mk (Kd.R_lower ho0 (below_size blw_)); have n1_ := Aside0.mk (below_step blw_ hb); clear HB; have HO395 := n0_; have HB := n1_; clear n0_ n1_; (try clear hb); (try clear hb2); (try clear hk); (try clear hi); (try clear ho0); obtain ⟨Ao9, co9, eo9⟩ := Kd.R_slice HO395.out; subst eo9) | ((with_reducible refine gate_callee (f := 38) rfl ?_); refine goesL_ (some 19) rfl rfl Try.func38 (by kernel_rfl) rfl #[.slice Ao9 t393.length co9] rfl amp_ ?_; (with_reducible refine (spec_FractionsOf.calls k _ _ t393 t396 t397 _ ?side1 ?side2 A4.out).mono ?_); (case side1 => repeat (first | exact (Kd.R_reads' HO395.out).2.2 | (with_reducible refine Kd.C_alloc ?_ _) | (with_reducible refine Kd.C_drewN ?_ _) | (with_reducible refine Kd.C_drew ?_))); (case side2 => exact (Kd.R_reads' HO395.out).2.1); rintro e w10 ⟨v398, rfl, ho0, hb⟩; refine ⟨_, rfl, ?_⟩; have n0_ := Aside0.mk (Kd.R_below (ra_ HO395.out) hb); have n1_ := Aside0.mk (Kd.R_lower ho0 (below_size blw_)); have n2_ := Aside0.mk (below_step blw_ hb); clear HO395; clear HB; have HO395 := n0_; have HO399 := n1_; have HB := n2_; clear n0_ n1_ n2_; (try clear hb); (try clear hb2); (try clear hk); (try clear hi); (try clear ho0)) | ((with_reducible refine gate_callee (f := 39) rfl ?_); refine goesL_ (some 23) rfl rfl Try.func39 (by kernel_rfl) rfl #[.slice A0 l0.length c0] rfl amp_ ?_; (with_reducible refine (laws_toIntS.calls k _ _ l0 t400 _ ?side1 ?side2 A5.out).mono ?_); (case side1 => repeat (first | exact (Kd.C_below HR0.out HB.out) | (with_reducible refine Kd.C_alloc ?_ _) | (with_reducible refine Kd.C_drewN ?_ _) | (with_reducible refine Kd.C_drew ?_))); (case side2 => exact HC0.out); rintro e w11 ⟨v401, rfl, ho0, hb⟩; refine ⟨_, rfl, ?_⟩; have n0_ := Aside0.mk (Kd.R_elder' (ra_ HO395.out) (Kd.R_base ho0) hb); have n1_ := Aside0.mk (Kd.R_below (ra_ HO399.out) hb); have n2_ := Aside0.mk (Kd.R_lower (Kd.R_new' ho0 (Kd.R_lt (ra_ HO395.out))) (below_size blw_)); have n3_ := Aside0.mk (below_step blw_ hb); clear HO395; clear HO399; clear HB; have HO395 := n0_; have HO399 := n1_; have HO402 := n2_; have HB := n3_; clear n0_ n1_ n2_ n3_; (try clear hb); (try clear hb2); (try clear hk); (try clear hi); (try clear ho0); obtain ⟨Ao12, co12, eo12⟩ := Kd.R_slice HO402.out; subst eo12) | ((with_reducible refine gate_callee (f := 40) rfl ?_); refine goesL_ (some 26) rfl rfl Try.func40 (by kernel_rfl) rfl #[.slice Ao12 t400.length co12] rfl amp_ ?_; (with_reducible refine (impl_FractionsOf.calls k _ _ t400 t403 t404 _ ?side1 ?side2 A6.out).mono ?_); (case side1 => repeat (first | exact (Kd.R_reads' HO402.out).2.2 | (with_reducible refine Kd.C_alloc ?_ _) | (with_reducible refine Kd.C_drewN ?_ _) | (with_reducible refine Kd.C_drew ?_))); (case side2 => exact (Kd.R_reads' HO402.out).2.1); rintro e w13 ⟨v405, rfl, ho0, hb⟩; refine ⟨_, rfl, ?_⟩; have n0_ := Aside0.mk (Kd.R_below (ra_ HO395.out) hb); have n1_ := Aside0.mk (Kd.R_elder' (ra_ HO399.out) (Kd.R_base ho0) hb); have n2_ := Aside0.mk (Kd.R_below (ra_ HO402.out) hb); have n3_ := Aside0.mk (Kd.R_lower (Kd.R_new' ho0 (Kd.R_lt (ra_ HO399.out))) (below_size blw_)); have n4_ := Aside0.mk (below_step blw_ hb); clear HO395; clear HO399; clear HO402; clear HB; have HO395 := n0_; have HO399 := n1_; have HO402 := n2_; have HO406 := n3_; have HB := n4_; clear n0_ n1_ n2_ n3_ n4_; (try clear hb); (try clear hb2); (try clear hk); (try clear hi); (try clear ho0)))
  (try simp only [Act.put, List.setIfInBounds_toArray, List.set_cons_zero, List.set_cons_succ])
  go_cut [37] (fun v37 wc => ∃ (kq : Nat) (x37_6 : Bool), v37 = .bool x37_6 ∧ Aside0 (laws_FnExactFractionsOf.j0 kq l0 t396 t397 t400 t403 t404 x37_6 = some r) ∧ Aside0 (kq ≤ k) ∧ Aside0 (Kd.R k32 32 wc w.heap.size (fun k_ => some k_ ≠ (v405 : Value).ownBlock) v398 t396) ∧ Aside0 (Kd.R (Kd.int .i64) 3 wc w.heap.size (fun _ => True) (.slice Ao12 t400.length co12) t400) ∧ Aside0 (Kd.R k32 32 wc w.heap.size (fun k_ => some k_ ≠ (v398 : Value).ownBlock) v405 t403) ∧ Aside0 (Below w.heap.size w wc))
  case first =>
   have H := HC7.out
   clear HC7
   replace H := Option.bind_eq_some_iff.mp H
   obtain ⟨t407, A140, H⟩ := H
   replace H : (if t407 = true then (laws_FnExactFractionsOf.j0 k l0 t396 t397 t400 t403 t404 (t404 != t397)) else (laws_FnExactFractionsOf.j0 k l0 t396 t397 t400 t403 t404 true)) = some r := H
   have A14 := Aside0.mk A140
   clear A140
   by_cases c15 : t407 = true
   ·subst c15
    have H1 : (laws_FnExactFractionsOf.j0 k l0 t396 t397 t400 t403 t404 (t404 != t397)) = some r := by rw [if_pos rfl] at H; exact H
    clear H
    have H := H1
    clear H1
    have H' := Aside0.mk H
    clear H
    obtain ⟨Ao16, co16, eo16⟩ := Kd.R_slice HO406.out
    subst eo16
    obtain ⟨Ao17, co17, eo17⟩ := Kd.R_slice HO399.out
    subst eo17
    go_wp2_with (first | ((with_reducible refine gate_callee (f := 17) rfl ?_); refine goesL_ (some 31) rfl rfl Try.func17 (by kernel_rfl) rfl #[.slice Ao16 t403.length co16, .slice Ao17 t396.length co17] rfl amp_ ?_; (with_reducible refine (laws_eqFractionS.calls k _ _ t403 _ _ t396 true _ ?side1 ?side2 ?side3 ?side4 A14.out).mono ?_); (case side1 => repeat (first | exact (Kd.R_reads' HO406.out).2.2 | (with_reducible refine Kd.C_alloc ?_ _) | (with_reducible refine Kd.C_drewN ?_ _) | (with_reducible refine Kd.C_drew ?_))); (case side2 => exact (Kd.R_reads' HO406.out).2.1); (case side3 => repeat (first | exact (Kd.R_reads' HO399.out).2.2 | (with_reducible refine Kd.C_alloc ?_ _) | (with_reducible refine Kd.C_drewN ?_ _) | (with_reducible refine Kd.C_drew ?_))); (case side4 => exact (Kd.R_reads' HO399.out).2.1); rintro e w18 ⟨rfl, hb⟩; refine ⟨_, rfl, ?_⟩; have n0_ := Aside0.mk (Kd.R_below (ra_ HO395.out) hb); have n1_ := Aside0.mk (Kd.R_below (ra_ HO399.out) hb); have n2_ := Aside0.mk (Kd.R_below (ra_ HO402.out) hb); have n3_ := Aside0.mk (Kd.R_below (ra_ HO406.out) hb); have n4_ := Aside0.mk (below_step blw_ hb); clear HO395; clear HO399; clear HO402; clear HO406; clear HB; have HO395 := n0_; have HO399 := n1_; have HO402 := n2_; have HO406 := n3_; have HB := n4_; clear n0_ n1_ n2_ n3_ n4_; (try clear hb); (try clear hb2); (try clear hk); (try clear hi)))
    go_meet
    case rel => exact ⟨_, ((t404 != t397)), (by first | rfl | (simp; done) | (simp [*]; done)), H', ⟨by first | omega | exact Nat.le_refl _⟩, ⟨by (with_reducible repeat (first | apply Kd.R_alloc | apply Kd.R_drewN | apply Kd.R_drew)); exact Kd.R_mono HO399.out (fun _ hk => hk.2)⟩, ⟨by (with_reducible repeat (first | apply Kd.R_alloc | apply Kd.R_drewN | apply Kd.R_drew)); exact Kd.R_mono HO402.out (fun _ hk => trivial)⟩, ⟨by (with_reducible repeat (first | apply Kd.R_alloc | apply Kd.R_drewN | apply Kd.R_drew)); exact Kd.R_mono HO406.out (fun _ hk => hk.2)⟩, ⟨by repeat (first | (with_reducible first | exact HB.out | apply below_alloc | apply pw_below_drewN | apply below_drew1) | exact HB.out)⟩⟩
   ·replace c15 := Bool.eq_false_iff.mpr c15
    subst c15
    have H1 : (laws_FnExactFractionsOf.j0 k l0 t396 t397 t400 t403 t404 true) = some r := by rw [if_neg (show ¬ (false = true) by decide)] at H; exact H
    clear H
    have H := H1
    clear H1
    have H' := Aside0.mk H
    clear H
    obtain ⟨Ao19, co19, eo19⟩ := Kd.R_slice HO406.out
    subst eo19
    obtain ⟨Ao20, co20, eo20⟩ := Kd.R_slice HO399.out
    subst eo20
    go_wp2_with (first | ((with_reducible refine gate_callee (f := 17) rfl ?_); refine goesL_ (some 31) rfl rfl Try.func17 (by kernel_rfl) rfl #[.slice Ao19 t403.length co19, .slice Ao20 t396.length co20] rfl amp_ ?_; (with_reducible refine (laws_eqFractionS.calls k _ _ t403 _ _ t396 false _ ?side1 ?side2 ?side3 ?side4 A14.out).mono ?_); (case side1 => repeat (first | exact (Kd.R_reads' HO406.out).2.2 | (with_reducible refine Kd.C_alloc ?_ _) | (with_reducible refine Kd.C_drewN ?_ _) | (with_reducible refine Kd.C_drew ?_))); (case side2 => exact (Kd.R_reads' HO406.out).2.1); (case side3 => repeat (first | exact (Kd.R_reads' HO399.out).2.2 | (with_reducible refine Kd.C_alloc ?_ _) | (with_reducible refine Kd.C_drewN ?_ _) | (with_reducible refine Kd.C_drew ?_))); (case side4 => exact (Kd.R_reads' HO399.out).2.1); rintro e w21 ⟨rfl, hb⟩; refine ⟨_, rfl, ?_⟩; have n0_ := Aside0.mk (Kd.R_below (ra_ HO395.out) hb); have n1_ := Aside0.mk (Kd.R_below (ra_ HO399.out) hb); have n2_ := Aside0.mk (Kd.R_below (ra_ HO402.out) hb); have n3_ := Aside0.mk (Kd.R_below (ra_ HO406.out) hb); have n4_ := Aside0.mk (below_step blw_ hb); clear HO395; clear HO399; clear HO402; clear HO406; clear HB; have HO395 := n0_; have HO399 := n1_; have HO402 := n2_; have HO406 := n3_; have HB := n4_; clear n0_ n1_ n2_ n3_ n4_; (try clear hb); (try clear hb2); (try clear hk); (try clear hi)))
    go_meet
    case rel => exact ⟨_, (true), (by first | rfl | (simp; done) | (simp [*]; done)), H', ⟨by first | omega | exact Nat.le_refl _⟩, ⟨by (with_reducible repeat (first | apply Kd.R_alloc | apply Kd.R_drewN | apply Kd.R_drew)); exact Kd.R_mono HO399.out (fun _ hk => hk.2)⟩, ⟨by (with_reducible repeat (first | apply Kd.R_alloc | apply Kd.R_drewN | apply Kd.R_drew)); exact Kd.R_mono HO402.out (fun _ hk => trivial)⟩, ⟨by (with_reducible repeat (first | apply Kd.R_alloc | apply Kd.R_drewN | apply Kd.R_drew)); exact Kd.R_mono HO406.out (fun _ hk => hk.2)⟩, ⟨by repeat (first | (with_reducible first | exact HB.out | apply below_alloc | apply pw_below_drewN | apply below_drew1) | exact HB.out)⟩⟩
  case rest =>
   clear HC7
   try clear c1
   try clear c2
   try clear c2b0
   try clear c2b1
   try clear p2
   try clear c3
   try clear c4
   try clear c8
   try clear c15
   try clear c17
   obtain ⟨kq, x37_6, rfl, HA, HJ6, HO_3, HO_5, HO_6, HB⟩ := hcut
   cases kq with
   | zero => exact absurd HA.out (by simp [laws_FnExactFractionsOf.j0])
   | succ kj6 =>
    have H := HA.out
    clear HA
    simp only [laws_FnExactFractionsOf.j0] at H
    by_cases c22 : x37_6 = true
    ·subst c22
     have H1 : (some false) = some r := by rw [if_pos rfl] at H; exact H
     clear H
     have H := H1
     clear H1
     exact absurd (H.trans (congrArg some htrue.out)) (by decide)
    ·replace c22 := Bool.eq_false_iff.mpr c22
     subst c22
     have H1 : ((laws_toIntS.f kj6 l0).bind fun t408 => ((laws_eqIntS.f kj6 t400 t408).bind fun t411 => (if t411 = true then ((laws_markIntS.f kj6 t400 1).bind fun bt412 => (if bt412.1 < 0 then (laws_FnExactFractionsOf.j1 kj6 l0 t396 t397 t403 true) else ((laws_eqFractionS.f kj6 t403 t396).bind fun t414 => (if t414 = true then (laws_FnExactFractionsOf.j1 kj6 l0 t396 t397 t403 (t404 != t397)) else (laws_FnExactFractionsOf.j1 kj6 l0 t396 t397 t403 true))))) else (some false)))) = some r := by rw [if_neg (show ¬ (false = true) by decide)] at H; exact H
     clear H
     have H := H1
     clear H1
     replace H := Option.bind_eq_some_iff.mp H
     obtain ⟨t408, A230, H⟩ := H
     replace H : ((laws_eqIntS.f kj6 t400 t408).bind fun t411 => (if t411 = true then ((laws_markIntS.f kj6 t400 1).bind fun bt412 => (if bt412.1 < 0 then (laws_FnExactFractionsOf.j1 kj6 l0 t396 t397 t403 true) else ((laws_eqFractionS.f kj6 t403 t396).bind fun t414 => (if t414 = true then (laws_FnExactFractionsOf.j1 kj6 l0 t396 t397 t403 (t404 != t397)) else (laws_FnExactFractionsOf.j1 kj6 l0 t396 t397 t403 true))))) else (some false))) = some r := H
     have A23 := Aside0.mk A230
     clear A230
     replace H := Option.bind_eq_some_iff.mp H
     obtain ⟨t411, A240, H⟩ := H
     replace H : (if t411 = true then ((laws_markIntS.f kj6 t400 1).bind fun bt412 => (if bt412.1 < 0 then (laws_FnExactFractionsOf.j1 kj6 l0 t396 t397 t403 true) else ((laws_eqFractionS.f kj6 t403 t396).bind fun t414 => (if t414 = true then (laws_FnExactFractionsOf.j1 kj6 l0 t396 t397 t403 (t404 != t397)) else (laws_FnExactFractionsOf.j1 kj6 l0 t396 t397 t403 true))))) else (some false)) = some r := H
     have A24 := Aside0.mk A240
     clear A240
     by_cases c25 : t411 = true
     ·subst c25
      have H1 : ((laws_markIntS.f kj6 t400 1).bind fun bt412 => (if bt412.1 < 0 then (laws_FnExactFractionsOf.j1 kj6 l0 t396 t397 t403 true) else ((laws_eqFractionS.f kj6 t403 t396).bind fun t414 => (if t414 = true then (laws_FnExactFractionsOf.j1 kj6 l0 t396 t397 t403 (t404 != t397)) else (laws_FnExactFractionsOf.j1 kj6 l0 t396 t397 t403 true))))) = some r := by rw [if_pos rfl] at H; exact H
      clear H
      have H := H1
      clear H1
      replace H := Option.bind_eq_some_iff.mp H
      obtain ⟨⟨t412, t413⟩, A260, H⟩ := H
      replace H : (if t412 < 0 then (laws_FnExactFractionsOf.j1 kj6 l0 t396 t397 t403 true) else ((laws_eqFractionS.f kj6 t403 t396).bind fun t414 => (if t414 = true then (laws_FnExactFractionsOf.j1 kj6 l0 t396 t397 t403 (t404 != t397)) else (laws_FnExactFractionsOf.j1 kj6 l0 t396 t397 t403 true)))) = some r := H
      have A26 := Aside0.mk A260
      clear A260
      have HC27 := Aside0.mk H
      clear H
      go_upto_region 12 with (first | ((with_reducible refine gate_callee (f := 39) rfl ?_); refine goesL_ (some 40) rfl rfl Try.func39 (by kernel_rfl) rfl #[.slice A0 l0.length c0] rfl amp_ ?_; (with_reducible refine (laws_toIntS.calls kj6 _ _ l0 t408 _ ?side1 ?side2 A23.out).mono ?_); (case side1 => repeat (first | exact (Kd.C_below HR0.out HB.out) | (with_reducible refine Kd.C_alloc ?_ _) | (with_reducible refine Kd.C_drewN ?_ _) | (with_reducible refine Kd.C_drew ?_))); (case side2 => exact HC0.out); rintro e w28 ⟨v409, rfl, ho0, hb⟩; refine ⟨_, rfl, ?_⟩; have n0_ := Aside0.mk (Kd.R_below (ra_ HO_3.out) hb); have n1_ := Aside0.mk (Kd.R_elder' (ra_ HO_5.out) (Kd.R_base ho0) hb); have n2_ := Aside0.mk (Kd.R_below (ra_ HO_6.out) hb); have n3_ := Aside0.mk (Kd.R_lower (Kd.R_new' ho0 (Kd.R_lt (ra_ HO_5.out))) (below_size blw_)); have n4_ := Aside0.mk (below_step blw_ hb); clear HO_3; clear HO_5; clear HO_6; clear HB; have HO_3 := n0_; have HO_5 := n1_; have HO_6 := n2_; have HO410 := n3_; have HB := n4_; clear n0_ n1_ n2_ n3_ n4_; (try clear hb); (try clear hb2); (try clear hk); (try clear hi); (try clear ho0); obtain ⟨Ao29, co29, eo29⟩ := Kd.R_slice HO410.out; subst eo29) | ((with_reducible refine gate_callee (f := 35) rfl ?_); refine goesL_ (some 41) rfl rfl Try.func35 (by kernel_rfl) rfl #[.slice Ao12 t400.length co12, .slice Ao29 t408.length co29] rfl amp_ ?_; (with_reducible refine (laws_eqIntS.calls kj6 _ _ t400 _ _ t408 true _ ?side1 ?side2 ?side3 ?side4 A24.out).mono ?_); (case side1 => repeat (first | exact (Kd.R_reads' HO_5.out).2.2 | (with_reducible refine Kd.C_alloc ?_ _) | (with_reducible refine Kd.C_drewN ?_ _) | (with_reducible refine Kd.C_drew ?_))); (case side2 => exact (Kd.R_reads' HO_5.out).2.1); (case side3 => repeat (first | exact (Kd.R_reads' HO410.out).2.2 | (with_reducible refine Kd.C_alloc ?_ _) | (with_reducible refine Kd.C_drewN ?_ _) | (with_reducible refine Kd.C_drew ?_))); (case side4 => exact (Kd.R_reads' HO410.out).2.1); rintro e w' ⟨rfl, ⟨nd, rfl⟩⟩; refine ⟨_, rfl, ?_⟩) | ((with_reducible refine gate_callee (f := 36) rfl ?_); refine goesL_ (some 45) rfl rfl Try.func36 (by kernel_rfl) rfl #[.slice Ao12 t400.length co12, .int .i64 1] rfl amp_ ?_; (with_reducible refine (laws_markIntS.calls kj6 (fun k_ => some k_ = (.slice Ao12 t400.length co12 : Value).ownBlock) (.slice Ao12 t400.length co12) t400 1 t412 t413 w _ ?side1 ?side2 A26.out).mono ?_); (case side1 => repeat (first | (with_reducible first | exact HB.out | apply below_alloc | apply pw_below_drewN | apply below_drew1) | exact HB.out)); (case side2 => exact Kd.R_tight rfl HO_5.out); rintro e w30 ⟨rfl, hy0, hb, hkp⟩; refine ⟨_, rfl, ?_⟩; have n0_ := Aside0.mk (Kd.R_mono (ok' := fun k_ => some k_ ≠ (v405 : Value).ownBlock) (Kd.R_keptB ((Kd.R_apart' HO_3.out (Kd.R_typed HO_5.out) (by decide))) hkp (fun k_ hk_ hs_ => (hk_.2) hs_)) (fun k_ hk_ => hk_.1.1)); have n1_ := Aside0.mk (Kd.R_reok rfl hy0 (fun k_ e_ => HO_5.out.1 k_ e_)); have n2_ := Aside0.mk (Kd.R_mono (ok' := fun k_ => some k_ ≠ (v398 : Value).ownBlock) (Kd.R_keptB ((Kd.R_apart' HO_6.out (Kd.R_typed HO_5.out) (by decide))) hkp (fun k_ hk_ hs_ => (hk_.2) hs_)) (fun k_ hk_ => hk_.1.1)); have n3_ := Aside0.mk (Kd.R_mono (ok' := fun k_ => some k_ ≠ (.slice Ao12 t400.length co12 : Value).ownBlock) (Kd.R_keptB (HO410.out) hkp (fun k_ hk_ hs_ => (hk_.2) hs_)) (fun k_ hk_ => hk_.1.2)); have n4_ := Aside0.mk (hb); clear HO_3; clear HO_5; clear HO_6; clear HO410; clear HB; have HO_3 := n0_; have HO_5 := n1_; have HO_6 := n2_; have HO410 := n3_; have HB := n4_; clear n0_ n1_ n2_ n3_ n4_; (try clear hb); (try clear hkp); (try clear hy0)))
      (try simp only [Act.put, List.setIfInBounds_toArray, List.set_cons_zero, List.set_cons_succ])
      go_cut [58] (fun v58 wc => ∃ (kq : Nat) (x58_26 : Bool), v58 = .bool x58_26 ∧ Aside0 (laws_FnExactFractionsOf.j1 kq l0 t396 t397 t403 x58_26 = some r) ∧ Aside0 (kq ≤ kj6) ∧ Aside0 (Kd.R k32 32 wc w.heap.size (fun k_ => some k_ ≠ (v405 : Value).ownBlock) v398 t396) ∧ Aside0 (Kd.R k32 32 wc w.heap.size (fun k_ => some k_ ≠ (v398 : Value).ownBlock) v405 t403) ∧ Aside0 (Below w.heap.size w wc))
      case first =>
       have H := HC27.out
       clear HC27
       by_cases c31 : t412 < 0
       ·rw [if_pos c31] at H
        have c31b0 : decide (t412 < 0) = true := decide_eq_true c31
        clear c31
        (first | rw [c31b0] | (simp only [i64_w, i32_w]; rw [c31b0]) | skip)
        have H' := Aside0.mk H
        clear H
        go_wp2
        go_meet
        case rel => exact ⟨_, (true), (by first | rfl | (simp; done) | (simp [*]; done)), H', ⟨by have := HJ6.out; first | omega | exact Nat.le_refl _⟩, ⟨ra_ HO_3.out⟩, ⟨ra_ HO_6.out⟩, ⟨by repeat (first | (with_reducible first | exact HB.out | apply below_alloc | apply pw_below_drewN | apply below_drew1) | exact HB.out)⟩⟩
       ·rw [if_neg c31] at H
        have c31b0 : decide (t412 < 0) = false := decide_eq_false c31
        clear c31
        (first | rw [c31b0] | (simp only [i64_w, i32_w]; rw [c31b0]) | skip)
        replace H := Option.bind_eq_some_iff.mp H
        obtain ⟨t414, A320, H⟩ := H
        replace H : (if t414 = true then (laws_FnExactFractionsOf.j1 kj6 l0 t396 t397 t403 (t404 != t397)) else (laws_FnExactFractionsOf.j1 kj6 l0 t396 t397 t403 true)) = some r := H
        have A32 := Aside0.mk A320
        clear A320
        by_cases c33 : t414 = true
        ·subst c33
         have H1 : (laws_FnExactFractionsOf.j1 kj6 l0 t396 t397 t403 (t404 != t397)) = some r := by rw [if_pos rfl] at H; exact H
         clear H
         have H := H1
         clear H1
         have H' := Aside0.mk H
         clear H
         obtain ⟨Ao34, co34, eo34⟩ := Kd.R_slice HO_6.out
         subst eo34
         obtain ⟨Ao35, co35, eo35⟩ := Kd.R_slice HO_3.out
         subst eo35
         go_wp2_with (first | (go_at_call 17; (with_reducible refine (laws_eqFractionS.calls kj6 _ _ t403 _ _ t396 true _ ?side1 ?side2 ?side3 ?side4 A32.out).mono ?_); (case side1 => repeat (first | exact (Kd.R_reads' HO_6.out).2.2 | (with_reducible refine Kd.C_alloc ?_ _) | (with_reducible refine Kd.C_drewN ?_ _) | (with_reducible refine Kd.C_drew ?_))); (case side2 => exact (Kd.R_reads' HO_6.out).2.1); (case side3 => repeat (first | exact (Kd.R_reads' HO_3.out).2.2 | (with_reducible refine Kd.C_alloc ?_ _) | (with_reducible refine Kd.C_drewN ?_ _) | (with_reducible refine Kd.C_drew ?_))); (case side4 => exact (Kd.R_reads' HO_3.out).2.1); rintro e w36 ⟨rfl, hb⟩; have n0_ := Aside0.mk (Kd.R_below (ra_ HO_3.out) hb); have n1_ := Aside0.mk (Kd.R_below (ra_ HO_5.out) hb); have n2_ := Aside0.mk (Kd.R_below (ra_ HO_6.out) hb); have n3_ := Aside0.mk (Kd.R_below (ra_ HO410.out) hb); have n4_ := Aside0.mk (below_step blw_ hb); clear HO_3; clear HO_5; clear HO_6; clear HO410; clear HB; have HO_3 := n0_; have HO_5 := n1_; have HO_6 := n2_; have HO410 := n3_; have HB := n4_; clear n0_ n1_ n2_ n3_ n4_; (try clear hb); (try clear hb2); (try clear hk); (try clear hi)))
         go_meet
         case rel => exact ⟨_, ((t404 != t397)), (by first | rfl | (simp; done) | (simp [*]; done)), H', ⟨by have := HJ6.out; first | omega | exact Nat.le_refl _⟩, ⟨ra_ HO_3.out⟩, ⟨ra_ HO_6.out⟩, ⟨by repeat (first | (with_reducible first | exact HB.out | apply below_alloc | apply pw_below_drewN | apply below_drew1) | exact HB.out)⟩⟩
        ·replace c33 := Bool.eq_false_iff.mpr c33
         subst c33
         have H1 : (laws_FnExactFractionsOf.j1 kj6 l0 t396 t397 t403 true) = some r := by rw [if_neg (show ¬ (false = true) by decide)] at H; exact H
         clear H
         have H := H1
         clear H1
         have H' := Aside0.mk H
         clear H
         obtain ⟨Ao37, co37, eo37⟩ := Kd.R_slice HO_6.out
         subst eo37
         obtain ⟨Ao38, co38, eo38⟩ := Kd.R_slice HO_3.out
         subst eo38
         go_wp2_with (first | (go_at_call 17; (with_reducible refine (laws_eqFractionS.calls kj6 _ _ t403 _ _ t396 false _ ?side1 ?side2 ?side3 ?side4 A32.out).mono ?_); (case side1 => repeat (first | exact (Kd.R_reads' HO_6.out).2.2 | (with_reducible refine Kd.C_alloc ?_ _) | (with_reducible refine Kd.C_drewN ?_ _) | (with_reducible refine Kd.C_drew ?_))); (case side2 => exact (Kd.R_reads' HO_6.out).2.1); (case side3 => repeat (first | exact (Kd.R_reads' HO_3.out).2.2 | (with_reducible refine Kd.C_alloc ?_ _) | (with_reducible refine Kd.C_drewN ?_ _) | (with_reducible refine Kd.C_drew ?_))); (case side4 => exact (Kd.R_reads' HO_3.out).2.1); rintro e w39 ⟨rfl, hb⟩; have n0_ := Aside0.mk (Kd.R_below (ra_ HO_3.out) hb); have n1_ := Aside0.mk (Kd.R_below (ra_ HO_5.out) hb); have n2_ := Aside0.mk (Kd.R_below (ra_ HO_6.out) hb); have n3_ := Aside0.mk (Kd.R_below (ra_ HO410.out) hb); have n4_ := Aside0.mk (below_step blw_ hb); clear HO_3; clear HO_5; clear HO_6; clear HO410; clear HB; have HO_3 := n0_; have HO_5 := n1_; have HO_6 := n2_; have HO410 := n3_; have HB := n4_; clear n0_ n1_ n2_ n3_ n4_; (try clear hb); (try clear hb2); (try clear hk); (try clear hi)))
         go_meet
         case rel => exact ⟨_, (true), (by first | rfl | (simp; done) | (simp [*]; done)), H', ⟨by have := HJ6.out; first | omega | exact Nat.le_refl _⟩, ⟨ra_ HO_3.out⟩, ⟨ra_ HO_6.out⟩, ⟨by repeat (first | (with_reducible first | exact HB.out | apply below_alloc | apply pw_below_drewN | apply below_drew1) | exact HB.out)⟩⟩
      case rest =>
       clear HC27
       try clear c1
       try clear c2
       try clear c2b0
       try clear c2b1
       try clear p2
       try clear c3
       try clear c4
       try clear c8
       try clear c15
       try clear c17
       try clear c22
       try clear c25
       try clear c31
       try clear c31b0
       try clear c33
       try clear c35
       try clear c36
       try clear c38
       try clear c39
       try clear p2
       obtain ⟨kq, x58_26, rfl, HA, HJ26, HO_3, HO_6, HB⟩ := hcut
       cases kq with
       | zero => exact absurd HA.out (by simp [laws_FnExactFractionsOf.j1])
       | succ kj26 =>
        have H := HA.out
        clear HA
        simp only [laws_FnExactFractionsOf.j1] at H
        by_cases c40 : x58_26 = true
        ·subst c40
         have H1 : (some false) = some r := by rw [if_pos rfl] at H; exact H
         clear H
         have H := H1
         clear H1
         exact absurd (H.trans (congrArg some htrue.out)) (by decide)
        ·replace c40 := Bool.eq_false_iff.mpr c40
         subst c40
         have H1 : ((laws_markFractionS.f kj26 t403 1).bind fun bt415 => ((laws_heldFractionS.f kj26 bt415.2 1).bind fun t417 => (if t417 < 0 then (some false) else (if t417 = bt415.1 then ((laws_toIntS.f kj26 l0).bind fun t418 => ((impl_FractionsOf.f kj26 t418).bind fun bt421 => ((laws_eqFractionS.f kj26 bt421.1 t396).bind fun t425 => (if t425 = true then (laws_FnExactFractionsOf.j2 kj26 bt415.2 bt415.1 (bt421.2 != t397)) else (laws_FnExactFractionsOf.j2 kj26 bt415.2 bt415.1 true))))) else (some false))))) = some r := by rw [if_neg (show ¬ (false = true) by decide)] at H; exact H
         clear H
         have H := H1
         clear H1
         replace H := Option.bind_eq_some_iff.mp H
         obtain ⟨⟨t415, t416⟩, A410, H⟩ := H
         replace H : ((laws_heldFractionS.f kj26 t416 1).bind fun t417 => (if t417 < 0 then (some false) else (if t417 = t415 then ((laws_toIntS.f kj26 l0).bind fun t418 => ((impl_FractionsOf.f kj26 t418).bind fun bt421 => ((laws_eqFractionS.f kj26 bt421.1 t396).bind fun t425 => (if t425 = true then (laws_FnExactFractionsOf.j2 kj26 t416 t415 (bt421.2 != t397)) else (laws_FnExactFractionsOf.j2 kj26 t416 t415 true))))) else (some false)))) = some r := H
         have A41 := Aside0.mk A410
         clear A410
         replace H := Option.bind_eq_some_iff.mp H
         obtain ⟨t417, A420, H⟩ := H
         replace H : (if t417 < 0 then (some false) else (if t417 = t415 then ((laws_toIntS.f kj26 l0).bind fun t418 => ((impl_FractionsOf.f kj26 t418).bind fun bt421 => ((laws_eqFractionS.f kj26 bt421.1 t396).bind fun t425 => (if t425 = true then (laws_FnExactFractionsOf.j2 kj26 t416 t415 (bt421.2 != t397)) else (laws_FnExactFractionsOf.j2 kj26 t416 t415 true))))) else (some false))) = some r := H
         have A42 := Aside0.mk A420
         clear A420
         by_cases c43 : t417 < 0
         ·rw [if_pos c43] at H
          have c43b0 : decide (t417 < 0) = true := decide_eq_true c43
          clear c43
          exact absurd (H.trans (congrArg some htrue.out)) (by decide)
         ·rw [if_neg c43] at H
          have c43b0 : decide (t417 < 0) = false := decide_eq_false c43
          clear c43
          by_cases c44 : t417 = t415
          ·rw [if_pos c44] at H
           have c44b0 : (t417 == t415) = true := beq_iff_eq.mpr c44
           have c44b1 : (t417 != t415) = false := bne_eq_false_iff_eq.mpr c44
           clear c44
           replace H := Option.bind_eq_some_iff.mp H
           obtain ⟨t418, A450, H⟩ := H
           replace H : ((impl_FractionsOf.f kj26 t418).bind fun bt421 => ((laws_eqFractionS.f kj26 bt421.1 t396).bind fun t425 => (if t425 = true then (laws_FnExactFractionsOf.j2 kj26 t416 t415 (bt421.2 != t397)) else (laws_FnExactFractionsOf.j2 kj26 t416 t415 true)))) = some r := H
           have A45 := Aside0.mk A450
           clear A450
           replace H := Option.bind_eq_some_iff.mp H
           obtain ⟨⟨t421, t422⟩, A460, H⟩ := H
           replace H : ((laws_eqFractionS.f kj26 t421 t396).bind fun t425 => (if t425 = true then (laws_FnExactFractionsOf.j2 kj26 t416 t415 (t422 != t397)) else (laws_FnExactFractionsOf.j2 kj26 t416 t415 true))) = some r := H
           have A46 := Aside0.mk A460
           clear A460
           have HC47 := Aside0.mk H
           clear H
           obtain ⟨Ao48, co48, eo48⟩ := Kd.R_slice HO_6.out
           subst eo48
           go_upto_region 23 with (first | ((with_reducible refine gate_callee (f := 18) rfl ?_); refine goesL_ (some 61) rfl rfl Try.func18 (by kernel_rfl) rfl #[.slice Ao48 t403.length co48, .int .i64 1] rfl amp_ ?_; (with_reducible refine (laws_markFractionS.calls kj26 (fun k_ => some k_ = (.slice Ao48 t403.length co48 : Value).ownBlock) (.slice Ao48 t403.length co48) t403 1 t415 t416 w _ ?side1 ?side2 A41.out).mono ?_); (case side1 => repeat (first | (with_reducible first | exact HB.out | apply below_alloc | apply pw_below_drewN | apply below_drew1) | exact HB.out)); (case side2 => exact Kd.R_tight rfl HO_6.out); rintro e w49 ⟨rfl, hy0, hb, hkp⟩; refine ⟨_, rfl, ?_⟩; have n0_ := Aside0.mk (Kd.R_mono (ok' := fun k_ => some k_ ≠ (.slice Ao48 t403.length co48 : Value).ownBlock) (Kd.R_keptB (HO_3.out) hkp (fun k_ hk_ hs_ => (hk_) hs_)) (fun k_ hk_ => hk_.1)); have n1_ := Aside0.mk (Kd.R_reok rfl hy0 (fun k_ e_ => HO_6.out.1 k_ e_)); have n2_ := Aside0.mk (hb); clear HO_3; clear HO_6; clear HB; have HO_3 := n0_; have HO_6 := n1_; have HB := n2_; clear n0_ n1_ n2_; (try clear hb); (try clear hkp); (try clear hy0)) | ((with_reducible refine gate_callee (f := 19) rfl ?_); refine goesL_ (some 64) rfl rfl Try.func19 (by kernel_rfl) rfl #[.slice Ao48 t416.length co48, .int .i64 1] rfl (by (try simp only [List.map_toArray, List.map_cons, List.map_nil]); first | done | (rw [show t416.length = t403.length from (Kd.R_reads' HO_6.out).1.symm] <;> rfl) | rfl | (simp only [List.length_drop, List.length_take]; rfl)) ?_; (with_reducible refine (laws_heldFractionS.calls kj26 _ _ t416 1 t417 _ ?side1 ?side2 A42.out).mono ?_); (case side1 => repeat (first | exact (Kd.R_reads' HO_6.out).2.2 | (with_reducible refine Kd.C_alloc ?_ _) | (with_reducible refine Kd.C_drewN ?_ _) | (with_reducible refine Kd.C_drew ?_))); (case side2 => rw [show t416.length = t403.length from (Kd.R_reads' HO_6.out).1.symm]; exact (Kd.R_reads' HO_6.out).2.1); rintro e w' ⟨rfl, ⟨nd, rfl⟩⟩; refine ⟨_, rfl, ?_⟩) | ((with_reducible refine gate_callee (f := 39) rfl ?_); refine goesL_ (some 72) rfl rfl Try.func39 (by kernel_rfl) rfl #[.slice A0 l0.length c0] rfl amp_ ?_; (with_reducible refine (laws_toIntS.calls kj26 _ _ l0 t418 _ ?side1 ?side2 A45.out).mono ?_); (case side1 => repeat (first | exact (Kd.C_below HR0.out blw_) | (with_reducible refine Kd.C_alloc ?_ _) | (with_reducible refine Kd.C_drewN ?_ _) | (with_reducible refine Kd.C_drew ?_))); (case side2 => exact HC0.out); rintro e w50 ⟨v419, rfl, ho0, hb⟩; refine ⟨_, rfl, ?_⟩; have n0_ := Aside0.mk (Kd.R_below (ra_ HO_3.out) hb); have n1_ := Aside0.mk (Kd.R_below (ra_ HO_6.out) hb); have n2_ := Aside0.mk (Kd.R_lower ho0 (below_size blw_)); have n3_ := Aside0.mk (below_step blw_ hb); clear HO_3; clear HO_6; clear HB; have HO_3 := n0_; have HO_6 := n1_; have HO420 := n2_; have HB := n3_; clear n0_ n1_ n2_ n3_; (try clear hb); (try clear hb2); (try clear hk); (try clear hi); (try clear ho0); obtain ⟨Ao51, co51, eo51⟩ := Kd.R_slice HO420.out; subst eo51) | ((with_reducible refine gate_callee (f := 40) rfl ?_); refine goesL_ (some 73) rfl rfl Try.func40 (by kernel_rfl) rfl #[.slice Ao51 t418.length co51] rfl amp_ ?_; (with_reducible refine (impl_FractionsOf.calls kj26 _ _ t418 t421 t422 _ ?side1 ?side2 A46.out).mono ?_); (case side1 => repeat (first | exact (Kd.R_reads' HO420.out).2.2 | (with_reducible refine Kd.C_alloc ?_ _) | (with_reducible refine Kd.C_drewN ?_ _) | (with_reducible refine Kd.C_drew ?_))); (case side2 => exact (Kd.R_reads' HO420.out).2.1); rintro e w52 ⟨v423, rfl, ho0, hb⟩; refine ⟨_, rfl, ?_⟩; have n0_ := Aside0.mk (Kd.R_elder' (ra_ HO_3.out) (Kd.R_base ho0) hb); have n1_ := Aside0.mk (Kd.R_elder' (ra_ HO_6.out) (Kd.R_base ho0) hb); have n2_ := Aside0.mk (Kd.R_below (ra_ HO420.out) hb); have n3_ := Aside0.mk (Kd.R_lower (Kd.R_new' (Kd.R_new' ho0 (Kd.R_lt (ra_ HO_3.out))) (Kd.R_lt (ra_ HO_6.out))) (below_size blw_)); have n4_ := Aside0.mk (below_step blw_ hb); clear HO_3; clear HO_6; clear HO420; clear HB; have HO_3 := n0_; have HO_6 := n1_; have HO420 := n2_; have HO424 := n3_; have HB := n4_; clear n0_ n1_ n2_ n3_ n4_; (try clear hb); (try clear hb2); (try clear hk); (try clear hi); (try clear ho0)))
           (try simp only [Act.put, List.setIfInBounds_toArray, List.set_cons_zero, List.set_cons_succ])
           go_cut [84] (fun v84 wc => ∃ (kq : Nat) (x84_46 : Bool), v84 = .bool x84_46 ∧ Aside0 (laws_FnExactFractionsOf.j2 kq t416 t415 x84_46 = some r) ∧ Aside0 (kq ≤ kj26) ∧ Aside0 (Kd.R k32 32 wc w.heap.size (fun _ => True) (.slice Ao48 t403.length co48) t416) ∧ Aside0 (Below w.heap.size w wc))
           case first =>
            have H := HC47.out
            clear HC47
            replace H := Option.bind_eq_some_iff.mp H
            obtain ⟨t425, A530, H⟩ := H
            replace H : (if t425 = true then (laws_FnExactFractionsOf.j2 kj26 t416 t415 (t422 != t397)) else (laws_FnExactFractionsOf.j2 kj26 t416 t415 true)) = some r := H
            have A53 := Aside0.mk A530
            clear A530
            by_cases c54 : t425 = true
            ·subst c54
             have H1 : (laws_FnExactFractionsOf.j2 kj26 t416 t415 (t422 != t397)) = some r := by rw [if_pos rfl] at H; exact H
             clear H
             have H := H1
             clear H1
             have H' := Aside0.mk H
             clear H
             obtain ⟨Ao55, co55, eo55⟩ := Kd.R_slice HO424.out
             subst eo55
             obtain ⟨Ao56, co56, eo56⟩ := Kd.R_slice HO_3.out
             subst eo56
             go_wp2_with (first | ((with_reducible refine gate_callee (f := 17) rfl ?_); refine goesL_ (some 78) rfl rfl Try.func17 (by kernel_rfl) rfl #[.slice Ao55 t421.length co55, .slice Ao56 t396.length co56] rfl amp_ ?_; (with_reducible refine (laws_eqFractionS.calls kj26 _ _ t421 _ _ t396 true _ ?side1 ?side2 ?side3 ?side4 A53.out).mono ?_); (case side1 => repeat (first | exact (Kd.R_reads' HO424.out).2.2 | (with_reducible refine Kd.C_alloc ?_ _) | (with_reducible refine Kd.C_drewN ?_ _) | (with_reducible refine Kd.C_drew ?_))); (case side2 => exact (Kd.R_reads' HO424.out).2.1); (case side3 => repeat (first | exact (Kd.R_reads' HO_3.out).2.2 | (with_reducible refine Kd.C_alloc ?_ _) | (with_reducible refine Kd.C_drewN ?_ _) | (with_reducible refine Kd.C_drew ?_))); (case side4 => exact (Kd.R_reads' HO_3.out).2.1); rintro e w57 ⟨rfl, hb⟩; refine ⟨_, rfl, ?_⟩; have n0_ := Aside0.mk (Kd.R_below (ra_ HO_3.out) hb); have n1_ := Aside0.mk (Kd.R_below (ra_ HO_6.out) hb); have n2_ := Aside0.mk (Kd.R_below (ra_ HO420.out) hb); have n3_ := Aside0.mk (Kd.R_below (ra_ HO424.out) hb); have n4_ := Aside0.mk (below_step blw_ hb); clear HO_3; clear HO_6; clear HO420; clear HO424; clear HB; have HO_3 := n0_; have HO_6 := n1_; have HO420 := n2_; have HO424 := n3_; have HB := n4_; clear n0_ n1_ n2_ n3_ n4_; (try clear hb); (try clear hb2); (try clear hk); (try clear hi)))
             go_meet
             case rel => exact ⟨_, ((t422 != t397)), (by first | rfl | (simp; done) | (simp [*]; done)), H', ⟨by have := HJ6.out; have := HJ26.out; first | omega | exact Nat.le_refl _⟩, ⟨by (with_reducible repeat (first | apply Kd.R_alloc | apply Kd.R_drewN | apply Kd.R_drew)); exact Kd.R_mono HO_6.out (fun _ hk => trivial)⟩, ⟨by repeat (first | (with_reducible first | exact HB.out | apply below_alloc | apply pw_below_drewN | apply below_drew1) | exact HB.out)⟩⟩
            ·replace c54 := Bool.eq_false_iff.mpr c54
             subst c54
             have H1 : (laws_FnExactFractionsOf.j2 kj26 t416 t415 true) = some r := by rw [if_neg (show ¬ (false = true) by decide)] at H; exact H
             clear H
             have H := H1
             clear H1
             have H' := Aside0.mk H
             clear H
             obtain ⟨Ao58, co58, eo58⟩ := Kd.R_slice HO424.out
             subst eo58
             obtain ⟨Ao59, co59, eo59⟩ := Kd.R_slice HO_3.out
             subst eo59
             go_wp2_with (first | ((with_reducible refine gate_callee (f := 17) rfl ?_); refine goesL_ (some 78) rfl rfl Try.func17 (by kernel_rfl) rfl #[.slice Ao58 t421.length co58, .slice Ao59 t396.length co59] rfl amp_ ?_; (with_reducible refine (laws_eqFractionS.calls kj26 _ _ t421 _ _ t396 false _ ?side1 ?side2 ?side3 ?side4 A53.out).mono ?_); (case side1 => repeat (first | exact (Kd.R_reads' HO424.out).2.2 | (with_reducible refine Kd.C_alloc ?_ _) | (with_reducible refine Kd.C_drewN ?_ _) | (with_reducible refine Kd.C_drew ?_))); (case side2 => exact (Kd.R_reads' HO424.out).2.1); (case side3 => repeat (first | exact (Kd.R_reads' HO_3.out).2.2 | (with_reducible refine Kd.C_alloc ?_ _) | (with_reducible refine Kd.C_drewN ?_ _) | (with_reducible refine Kd.C_drew ?_))); (case side4 => exact (Kd.R_reads' HO_3.out).2.1); rintro e w60 ⟨rfl, hb⟩; refine ⟨_, rfl, ?_⟩; have n0_ := Aside0.mk (Kd.R_below (ra_ HO_3.out) hb); have n1_ := Aside0.mk (Kd.R_below (ra_ HO_6.out) hb); have n2_ := Aside0.mk (Kd.R_below (ra_ HO420.out) hb); have n3_ := Aside0.mk (Kd.R_below (ra_ HO424.out) hb); have n4_ := Aside0.mk (below_step blw_ hb); clear HO_3; clear HO_6; clear HO420; clear HO424; clear HB; have HO_3 := n0_; have HO_6 := n1_; have HO420 := n2_; have HO424 := n3_; have HB := n4_; clear n0_ n1_ n2_ n3_ n4_; (try clear hb); (try clear hb2); (try clear hk); (try clear hi)))
             go_meet
             case rel => exact ⟨_, (true), (by first | rfl | (simp; done) | (simp [*]; done)), H', ⟨by have := HJ6.out; have := HJ26.out; first | omega | exact Nat.le_refl _⟩, ⟨by (with_reducible repeat (first | apply Kd.R_alloc | apply Kd.R_drewN | apply Kd.R_drew)); exact Kd.R_mono HO_6.out (fun _ hk => trivial)⟩, ⟨by repeat (first | (with_reducible first | exact HB.out | apply below_alloc | apply pw_below_drewN | apply below_drew1) | exact HB.out)⟩⟩
           case rest =>
            clear HC47
            try clear c1
            try clear c2
            try clear c2b0
            try clear c2b1
            try clear p2
            try clear c3
            try clear c4
            try clear c5
            try clear c8
            try clear c15
            try clear c17
            try clear c18
            try clear c19
            try clear c22
            try clear c25
            try clear c31
            try clear c31b0
            try clear c33
            try clear c35
            try clear c36
            try clear c38
            try clear c39
            try clear c40
            try clear c43
            try clear c43b0
            try clear c44
            try clear c44b0
            try clear c44b1
            try clear c54
            try clear p2
            obtain ⟨kq, x84_46, rfl, HA, HJ46, HO_6, HB⟩ := hcut
            have hl6_46 := (Kd.R_reads' HO_6.out).1
            rw [hl6_46] at HO_6
            (try simp only [hl6_46])
            cases kq with
            | zero => exact absurd HA.out (by simp [laws_FnExactFractionsOf.j2])
            | succ kj46 =>
             have H := HA.out
             clear HA
             simp only [laws_FnExactFractionsOf.j2] at H
             by_cases c61 : x84_46 = true
             ·subst c61
              have H1 : (some false) = some r := by rw [if_pos rfl] at H; exact H
              clear H
              have H := H1
              clear H1
              exact absurd (H.trans (congrArg some htrue.out)) (by decide)
             ·replace c61 := Bool.eq_false_iff.mpr c61
              subst c61
              have H1 : ((laws_heldFractionS.f kj46 t416 1).bind fun t426 => (if t426 < 0 then (some false) else (if t426 = t415 then (some true) else (some false)))) = some r := by rw [if_neg (show ¬ (false = true) by decide)] at H; exact H
              clear H
              have H := H1
              clear H1
              replace H := Option.bind_eq_some_iff.mp H
              obtain ⟨t426, A620, H⟩ := H
              replace H : (if t426 < 0 then (some false) else (if t426 = t415 then (some true) else (some false))) = some r := H
              have A62 := Aside0.mk A620
              clear A620
              by_cases c63 : t426 < 0
              ·rw [if_pos c63] at H
               have c63b0 : decide (t426 < 0) = true := decide_eq_true c63
               clear c63
               exact absurd (H.trans (congrArg some htrue.out)) (by decide)
              ·rw [if_neg c63] at H
               have c63b0 : decide (t426 < 0) = false := decide_eq_false c63
               clear c63
               by_cases c64 : t426 = t415
               ·rw [if_pos c64] at H
                have c64b0 : (t426 == t415) = true := beq_iff_eq.mpr c64
                have c64b1 : (t426 != t415) = false := bne_eq_false_iff_eq.mpr c64
                clear c64
                obtain rfl := Option.some.inj H
                go_wp2_with (first | ((with_reducible refine gate_callee (f := 19) rfl ?_); refine goesL_ (some 87) rfl rfl Try.func19 (by kernel_rfl) rfl #[.slice Ao48 t416.length co48, .int .i64 1] rfl amp_ ?_; (with_reducible refine (laws_heldFractionS.calls kj46 _ _ t416 1 t426 _ ?side1 ?side2 A62.out).mono ?_); (case side1 => repeat (first | exact (Kd.R_reads' HO_6.out).2.2 | (with_reducible refine Kd.C_alloc ?_ _) | (with_reducible refine Kd.C_drewN ?_ _) | (with_reducible refine Kd.C_drew ?_))); (case side2 => exact (Kd.R_reads' HO_6.out).2.1); rintro e w' ⟨rfl, ⟨nd, rfl⟩⟩; refine ⟨_, rfl, ?_⟩))
                go_ret
                exact ⟨by first | rfl | (simp [errW_none, errW_some] <;> rfl) | (simp [*, errW_none, errW_some] <;> rfl), by repeat (first | (with_reducible first | exact HB.out | apply below_alloc | apply pw_below_drewN | apply below_drew1) | exact HB.out)⟩
               ·rw [if_neg c64] at H
                have c64b0 : (t426 == t415) = false := beq_eq_false_iff_ne.mpr c64
                have c64b1 : (t426 != t415) = true := bne_iff_ne.mpr c64
                exact absurd (H.trans (congrArg some htrue.out)) (by decide)
          ·rw [if_neg c44] at H
           have c44b0 : (t417 == t415) = false := beq_eq_false_iff_ne.mpr c44
           have c44b1 : (t417 != t415) = true := bne_iff_ne.mpr c44
           exact absurd (H.trans (congrArg some htrue.out)) (by decide)
     ·replace c25 := Bool.eq_false_iff.mpr c25
      subst c25
      have H1 : (some false) = some r := by rw [if_neg (show ¬ (false = true) by decide)] at H; exact H
      clear H
      have H := H1
      clear H1
      exact absurd (H.trans (congrArg some htrue.out)) (by decide)

/-- THE ONE PURE STATEMENT of laws_FnExactFractionsOf: yours. -/
def laws_FnExactFractionsOf.Pure : Prop := ∀ (l0 : List Int), l0.length ≤ maxLen → l0.length * 8 ≤ 140737488351232 → (∀ x ∈ l0, (Lit.int .i64 x).wf = true) → ∃ k, laws_FnExactFractionsOf.f k l0 = some true
theorem laws_FnExactFractionsOf.walk (P : laws_FnExactFractionsOf.Pure) (a0 : Option Addr) (len0 cap0 : Nat) (z0 : List Int) (w : World) (w0 : (a0 = none ∧ len0 = 0 ∧ cap0 = 0 ∧ z0 = []) ∨ ∃ x, a0 = some x ∧ len0 ≤ cap0 ∧ cap0 ≤ maxLen ∧ z0.length = cap0 ∧ (∀ i, i < z0.length → w.cell? (x.add i) = some (.int .i64 (z0.getD i 0))) ∧ ∀ n ∈ z0, (Lit.int .i64 n).wf = true) (y0 : len0 * 8 ≤ 140737488351232) :
  Calls Try.prog 8 #[.slice a0 len0 cap0] w fun e w' => e = .returned (.bool true) ∧ Below w.heap.size w w' := by
 obtain ⟨l0, rfl, hr0, hm0, hw0, hc0⟩ := ReadsInt.ofRowC w0
 obtain ⟨k, h⟩ := P l0 hm0 y0 hw0
 refine (laws_FnExactFractionsOf.calls k _ _ l0 true w (Kd.C_of_reads (d := (0 : Int)) (h1 := fun _ => rfl) hr0) hc0 h).mono ?_
 rintro e w' ⟨rfl, hd⟩
 exact ⟨rfl, hd⟩

end Go.Proofs.Ytnjejmfnacpdoaa.PFnExactFractionsOf
