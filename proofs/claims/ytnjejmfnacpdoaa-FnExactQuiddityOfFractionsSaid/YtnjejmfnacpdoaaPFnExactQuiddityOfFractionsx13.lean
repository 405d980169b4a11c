-- WRITTEN BY A PROGRAM OF THIS WORK (wip/tools/ppatch.py) for this claim.
import Derived.Test.YtnjejmfnacpdoaaPFnExactQuiddityOfFractionsx0
import Derived.Test.YtnjejmfnacpdoaaPFnExactQuiddityOfFractionsx2
import Derived.Test.YtnjejmfnacpdoaaPFnExactQuiddityOfFractionsx5
import Derived.Test.YtnjejmfnacpdoaaPFnExactQuiddityOfFractionsx12
namespace Go.Proofs.Ytnjejmfnacpdoaa.PFnExactQuiddityOfFractions
open Go.RowKit Go.Proofs.YtnjejmfnacpdoaaW.PrintWords Go.Proofs.YtnjejmfnacpdoaaW.PrintLast Go.Proofs.YtnjejmfnacpdoaaW.PrintMore
attribute [local go_sem] max2_int min2_int max_two min_two max_three min_three max_four min_four   -- for this text's walks alone
set_option linter.unusedVariables false
set_option linter.unusedSimpArgs false

/-! ### laws_FnExactQuiddityOfFractions: function 7 -/
mutual
def laws_FnExactQuiddityOfFractions.j0 : Nat → List (S31) → List Int → Bool → List (S32) → List Int → Bool → Bool → Option (Bool)
 | 0, _, _, _, _, _, _, _ => none
 | k + 1, x0, x4, x5, x6, x7, x8, x40 => if x40 = true then (some false) else ((laws_toFractionS.f k x0).bind fun t245 => ((laws_eqFractionS.f k x6 t245).bind fun t248 => (if t248 = true then ((laws_markFractionS.f k x6 1).bind fun bt249 => (if bt249.1 < 0 then (laws_FnExactQuiddityOfFractions.j1 k x0 x4 x5 x7 true) else ((laws_eqIntS.f k x7 x4).bind fun t251 => (if t251 = true then (laws_FnExactQuiddityOfFractions.j1 k x0 x4 x5 x7 (x8 != x5)) else (laws_FnExactQuiddityOfFractions.j1 k x0 x4 x5 x7 true))))) else (some false))))
def laws_FnExactQuiddityOfFractions.j1 : Nat → List (S31) → List Int → Bool → List Int → Bool → Option (Bool)
 | 0, _, _, _, _, _ => none
 | k + 1, x0, x4, x5, x7, x61 => if x61 = true then (some false) else ((laws_markIntS.f k x7 1).bind fun bt252 => ((laws_heldIntS.f k bt252.2 1).bind fun t254 => (if t254 < 0 then (some false) else (if t254 = bt252.1 then ((laws_toFractionS.f k x0).bind fun t255 => ((impl_QuiddityOfFractions.f k t255).bind fun bt258 => ((laws_eqIntS.f k bt258.1 x4).bind fun t262 => (if t262 = true then (laws_FnExactQuiddityOfFractions.j2 k bt252.2 bt252.1 (bt258.2 != x5)) else (laws_FnExactQuiddityOfFractions.j2 k bt252.2 bt252.1 true))))) else (some false)))))
def laws_FnExactQuiddityOfFractions.j2 : Nat → List Int → Int → Bool → Option (Bool)
 | 0, _, _, _ => none
 | k + 1, x7, x10, x87 => if x87 = true then (some false) else ((laws_heldIntS.f k x7 1).bind fun t263 => (if t263 < 0 then (some false) else (if t263 = x10 then (some true) else (some false))))
end
def laws_FnExactQuiddityOfFractions.f (k : Nat) (l0 : List (S31)) : Option (Bool) := (laws_szFractionS.f l0 1048576).bind fun t229 => (if t229 < 0 then (some true) else ((laws_toFractionS.f k l0).bind fun t230 => ((spec_QuiddityOfFractions.f k t230).bind fun bt233 => ((laws_toFractionS.f k l0).bind fun t237 => ((impl_QuiddityOfFractions.f k t237).bind fun bt240 => ((laws_eqIntS.f k bt240.1 bt233.1).bind fun t244 => (if t244 = true then (laws_FnExactQuiddityOfFractions.j0 k l0 bt233.1 bt233.2 t237 bt240.1 bt240.2 (bt240.2 != bt233.2)) else (laws_FnExactQuiddityOfFractions.j0 k l0 bt233.1 bt233.2 t237 bt240.1 bt240.2 true))))))))
theorem laws_FnExactQuiddityOfFractions.mono_l : ∀ k, (∀ y0 y1 y2 y3 y4 y5 y6, LeO (laws_FnExactQuiddityOfFractions.j0 k y0 y1 y2 y3 y4 y5 y6) (laws_FnExactQuiddityOfFractions.j0 (k + 1) y0 y1 y2 y3 y4 y5 y6)) ∧ (∀ y0 y1 y2 y3 y4, LeO (laws_FnExactQuiddityOfFractions.j1 k y0 y1 y2 y3 y4) (laws_FnExactQuiddityOfFractions.j1 (k + 1) y0 y1 y2 y3 y4)) ∧ (∀ y0 y1 y2, LeO (laws_FnExactQuiddityOfFractions.j2 k y0 y1 y2) (laws_FnExactQuiddityOfFractions.j2 (k + 1) y0 y1 y2))
 | 0 => ⟨fun _ _ _ _ _ _ _ r h => by simp [laws_FnExactQuiddityOfFractions.j0] at h, fun _ _ _ _ _ r h => by simp [laws_FnExactQuiddityOfFractions.j1] at h, fun _ _ _ r h => by simp [laws_FnExactQuiddityOfFractions.j2] at h⟩
 | k + 1 => by
  obtain ⟨ih0, ih1, ih2⟩ := laws_FnExactQuiddityOfFractions.mono_l k
  refine ⟨?_, ?_, ?_⟩
  ·intro y0 y1 y2 y3 y4 y5 y6
   unfold laws_FnExactQuiddityOfFractions.j0
   repeat' first
   | (with_reducible exact ih0 _ _ _ _ _ _ _)
   | (with_reducible exact ih1 _ _ _ _ _)
   | (with_reducible exact ih2 _ _ _)
   | (with_reducible exact impl_QuiddityOfFractions.mono _ _)
   | (with_reducible exact laws_eqFractionS.mono _ _ _)
   | (with_reducible exact laws_eqIntS.mono _ _ _)
   | (with_reducible exact laws_heldIntS.mono _ _ _)
   | (with_reducible exact laws_markFractionS.mono _ _ _)
   | (with_reducible exact laws_markIntS.mono _ _ _)
   | (with_reducible exact laws_toFractionS.mono _ _)
   | (with_reducible exact spec_QuiddityOfFractions.mono _ _)
   | (with_reducible exact LeO.refl _)
   | (with_reducible exact LeO.none _)
   | (with_reducible refine LeO.ite ?_ ?_)
   | (with_reducible refine LeO.bind ?_ (fun _ => ?_))
   | exact ih0 _ _ _ _ _ _ _
   | exact ih1 _ _ _ _ _
   | exact ih2 _ _ _
   | exact impl_QuiddityOfFractions.mono _ _
   | exact laws_eqFractionS.mono _ _ _
   | exact laws_eqIntS.mono _ _ _
   | exact laws_heldIntS.mono _ _ _
   | exact laws_markFractionS.mono _ _ _
   | exact laws_markIntS.mono _ _ _
   | exact laws_toFractionS.mono _ _
   | exact spec_QuiddityOfFractions.mono _ _
   | exact LeO.none _
   | refine LeO.ite ?_ ?_
   | refine LeO.bind ?_ (fun _ => ?_)
  ·intro y0 y1 y2 y3 y4
   unfold laws_FnExactQuiddityOfFractions.j1
   repeat' first
   | (with_reducible exact ih0 _ _ _ _ _ _ _)
   | (with_reducible exact ih1 _ _ _ _ _)
   | (with_reducible exact ih2 _ _ _)
   | (with_reducible exact impl_QuiddityOfFractions.mono _ _)
   | (with_reducible exact laws_eqFractionS.mono _ _ _)
   | (with_reducible exact laws_eqIntS.mono _ _ _)
   | (with_reducible exact laws_heldIntS.mono _ _ _)
   | (with_reducible exact laws_markFractionS.mono _ _ _)
   | (with_reducible exact laws_markIntS.mono _ _ _)
   | (with_reducible exact laws_toFractionS.mono _ _)
   | (with_reducible exact spec_QuiddityOfFractions.mono _ _)
   | (with_reducible exact LeO.refl _)
   | (with_reducible exact LeO.none _)
   | (with_reducible refine LeO.ite ?_ ?_)
   | (with_reducible refine LeO.bind ?_ (fun _ => ?_))
   | exact ih0 _ _ _ _ _ _ _
   | exact ih1 _ _ _ _ _
   | exact ih2 _ _ _
   | exact impl_QuiddityOfFractions.mono _ _
   | exact laws_eqFractionS.mono _ _ _
   | exact laws_eqIntS.mono _ _ _
   | exact laws_heldIntS.mono _ _ _
   | exact laws_markFractionS.mono _ _ _
   | exact laws_markIntS.mono _ _ _
   | exact laws_toFractionS.mono _ _
   | exact spec_QuiddityOfFractions.mono _ _
   | exact LeO.none _
   | refine LeO.ite ?_ ?_
   | refine LeO.bind ?_ (fun _ => ?_)
  ·intro y0 y1 y2
   unfold laws_FnExactQuiddityOfFractions.j2
   repeat' first
   | (with_reducible exact ih0 _ _ _ _ _ _ _)
   | (with_reducible exact ih1 _ _ _ _ _)
   | (with_reducible exact ih2 _ _ _)
   | (with_reducible exact impl_QuiddityOfFractions.mono _ _)
   | (with_reducible exact laws_eqFractionS.mono _ _ _)
   | (with_reducible exact laws_eqIntS.mono _ _ _)
   | (with_reducible exact laws_heldIntS.mono _ _ _)
   | (with_reducible exact laws_markFractionS.mono _ _ _)
   | (with_reducible exact laws_markIntS.mono _ _ _)
   | (with_reducible exact laws_toFractionS.mono _ _)
   | (with_reducible exact spec_QuiddityOfFractions.mono _ _)
   | (with_reducible exact LeO.refl _)
   | (with_reducible exact LeO.none _)
   | (with_reducible refine LeO.ite ?_ ?_)
   | (with_reducible refine LeO.bind ?_ (fun _ => ?_))
   | exact ih0 _ _ _ _ _ _ _
   | exact ih1 _ _ _ _ _
   | exact ih2 _ _ _
   | exact impl_QuiddityOfFractions.mono _ _
   | exact laws_eqFractionS.mono _ _ _
   | exact laws_eqIntS.mono _ _ _
   | exact laws_heldIntS.mono _ _ _
   | exact laws_markFractionS.mono _ _ _
   | exact laws_markIntS.mono _ _ _
   | exact laws_toFractionS.mono _ _
   | exact spec_QuiddityOfFractions.mono _ _
   | exact LeO.none _
   | refine LeO.ite ?_ ?_
   | refine LeO.bind ?_ (fun _ => ?_)
theorem laws_FnExactQuiddityOfFractions.mono : ∀ a0 k, LeO (laws_FnExactQuiddityOfFractions.f k a0) (laws_FnExactQuiddityOfFractions.f (k + 1) a0) := by
 intro a0 k
 obtain ⟨ih0, ih1, ih2⟩ := laws_FnExactQuiddityOfFractions.mono_l k
 unfold laws_FnExactQuiddityOfFractions.f
 repeat' first
   | (with_reducible exact ih0 _ _ _ _ _ _ _)
   | (with_reducible exact ih1 _ _ _ _ _)
   | (with_reducible exact ih2 _ _ _)
   | (with_reducible exact impl_QuiddityOfFractions.mono _ _)
   | (with_reducible exact laws_eqFractionS.mono _ _ _)
   | (with_reducible exact laws_eqIntS.mono _ _ _)
   | (with_reducible exact laws_heldIntS.mono _ _ _)
   | (with_reducible exact laws_markFractionS.mono _ _ _)
   | (with_reducible exact laws_markIntS.mono _ _ _)
   | (with_reducible exact laws_toFractionS.mono _ _)
   | (with_reducible exact spec_QuiddityOfFractions.mono _ _)
   | (with_reducible exact LeO.refl _)
   | (with_reducible exact LeO.none _)
   | (with_reducible refine LeO.ite ?_ ?_)
   | (with_reducible refine LeO.bind ?_ (fun _ => ?_))
   | exact ih0 _ _ _ _ _ _ _
   | exact ih1 _ _ _ _ _
   | exact ih2 _ _ _
   | exact impl_QuiddityOfFractions.mono _ _
   | exact laws_eqFractionS.mono _ _ _
   | exact laws_eqIntS.mono _ _ _
   | exact laws_heldIntS.mono _ _ _
   | exact laws_markFractionS.mono _ _ _
   | exact laws_markIntS.mono _ _ _
   | exact laws_toFractionS.mono _ _
   | exact spec_QuiddityOfFractions.mono _ _
   | exact LeO.none _
   | refine LeO.ite ?_ ?_
   | refine LeO.bind ?_ (fun _ => ?_)
set_option maxHeartbeats 8000000 in
set_option maxRecDepth 100000 in
theorem laws_FnExactQuiddityOfFractions.calls (k : Nat) (A0 : Option Addr) (c0 : Nat) (l0 : List (S31)) (r : Bool) (w : World) (hr0 : Kd.C k31 w A0 l0.length l0) (hc0 : l0.length ≤ c0) (h : laws_FnExactQuiddityOfFractions.f k l0 = some r) (htrue : Aside0 (r = true) := by exact ⟨rfl⟩) :
  Calls Try.prog 7 #[.slice A0 l0.length c0] w fun e w' => e = .returned (.bool r) ∧ Below w.heap.size w w' := by
 have HR0 := Aside0.mk hr0
 have HC0 := Aside0.mk hc0
 clear hr0 hc0
 have HB := Aside0.mk (Below.refl w.heap.size w)
 have H : ((laws_szFractionS.f l0 1048576).bind fun t229 => (if t229 < 0 then (some true) else ((laws_toFractionS.f k l0).bind fun t230 => ((spec_QuiddityOfFractions.f k t230).bind fun bt233 => ((laws_toFractionS.f k l0).bind fun t237 => ((impl_QuiddityOfFractions.f k t237).bind fun bt240 => ((laws_eqIntS.f k bt240.1 bt233.1).bind fun t244 => (if t244 = true then (laws_FnExactQuiddityOfFractions.j0 k l0 bt233.1 bt233.2 t237 bt240.1 bt240.2 (bt240.2 != bt233.2)) else (laws_FnExactQuiddityOfFractions.j0 k l0 bt233.1 bt233.2 t237 bt240.1 bt240.2 true))))))))) = some r := h
 clear h
 replace H := Option.bind_eq_some_iff.mp H
 obtain ⟨t229, A20, H⟩ := H
 replace H : (if t229 < 0 then (some true) else ((laws_toFractionS.f k l0).bind fun t230 => ((spec_QuiddityOfFractions.f k t230).bind fun bt233 => ((laws_toFractionS.f k l0).bind fun t237 => ((impl_QuiddityOfFractions.f k t237).bind fun bt240 => ((laws_eqIntS.f k bt240.1 bt233.1).bind fun t244 => (if t244 = true then (laws_FnExactQuiddityOfFractions.j0 k l0 bt233.1 bt233.2 t237 bt240.1 bt240.2 (bt240.2 != bt233.2)) else (laws_FnExactQuiddityOfFractions.j0 k l0 bt233.1 bt233.2 t237 bt240.1 bt240.2 true)))))))) = some r := H
 have A2 := Aside0.mk A20
 clear A20
 by_cases c3 : t229 < 0
 ·rw [if_pos c3] at H
  have c3b0 : decide (t229 < 0) = true := decide_eq_true c3
  clear c3
  obtain rfl := Option.some.inj H
  go_enter Try.func7, Try.ntmps7
  go_wp2_with (first | ((with_reducible refine gate_callee (f := 26) rfl ?_); refine goesL_ (some 16) rfl rfl Try.func26 (by kernel_rfl) rfl #[.slice A0 l0.length c0, .int .i64 1048576] rfl amp_ ?_; (with_reducible refine (laws_szFractionS.calls _ _ l0 1048576 t229 _ ?side1 ?side2 A2.out).mono ?_); (case side1 => repeat (first | exact HR0.out | (with_reducible refine Kd.C_alloc ?_ _) | (with_reducible refine Kd.C_drewN ?_ _) | (with_reducible refine Kd.C_drew ?_))); (case side2 => exact HC0.out); rintro e w' ⟨rfl, ⟨nd, rfl⟩⟩; refine ⟨_, rfl, ?_⟩))
  go_ret
  exact ⟨by first | rfl | (simp [errW_none, errW_some] <;> rfl) | (simp [*, errW_none, errW_some] <;> rfl), by repeat (first | (with_reducible first | exact HB.out | apply below_alloc | apply pw_below_drewN | apply below_drew1) | exact HB.out)⟩
 ·rw [if_neg c3] at H
  have c3b0 : decide (t229 < 0) = false := decide_eq_false c3
  clear c3
  replace H := Option.bind_eq_some_iff.mp H
  obtain ⟨t230, A40, H⟩ := H
  replace H : ((spec_QuiddityOfFractions.f k t230).bind fun bt233 => ((laws_toFractionS.f k l0).bind fun t237 => ((impl_QuiddityOfFractions.f k t237).bind fun bt240 => ((laws_eqIntS.f k bt240.1 bt233.1).bind fun t244 => (if t244 = true then (laws_FnExactQuiddityOfFractions.j0 k l0 bt233.1 bt233.2 t237 bt240.1 bt240.2 (bt240.2 != bt233.2)) else (laws_FnExactQuiddityOfFractions.j0 k l0 bt233.1 bt233.2 t237 bt240.1 bt240.2 true)))))) = some r := H
  have A4 := Aside0.mk A40
  clear A40
  replace H := Option.bind_eq_some_iff.mp H
  obtain ⟨⟨t233, t234⟩, A50, H⟩ := H
  replace H : ((laws_toFractionS.f k l0).bind fun t237 => ((impl_QuiddityOfFractions.f k t237).bind fun bt240 => ((laws_eqIntS.f k bt240.1 t233).bind fun t244 => (if t244 = true then (laws_FnExactQuiddityOfFractions.j0 k l0 t233 t234 t237 bt240.1 bt240.2 (bt240.2 != t234)) else (laws_FnExactQuiddityOfFractions.j0 k l0 t233 t234 t237 bt240.1 bt240.2 true))))) = some r := H
  have A5 := Aside0.mk A50
  clear A50
  replace H := Option.bind_eq_some_iff.mp H
  obtain ⟨t237, A60, H⟩ := H
  replace H : ((impl_QuiddityOfFractions.f k t237).bind fun bt240 => ((laws_eqIntS.f k bt240.1 t233).bind fun t244 => (if t244 = true then (laws_FnExactQuiddityOfFractions.j0 k l0 t233 t234 t237 bt240.1 bt240.2 (bt240.2 != t234)) else (laws_FnExactQuiddityOfFractions.j0 k l0 t233 t234 t237 bt240.1 bt240.2 true)))) = some r := H
  have A6 := Aside0.mk A60
  clear A60
  replace H := Option.bind_eq_some_iff.mp H
  obtain ⟨⟨t240, t241⟩, A70, H⟩ := H
  replace H : ((laws_eqIntS.f k t240 t233).bind fun t244 => (if t244 = true then (laws_FnExactQuiddityOfFractions.j0 k l0 t233 t234 t237 t240 t241 (t241 != t234)) else (laws_FnExactQuiddityOfFractions.j0 k l0 t233 t234 t237 t240 t241 true))) = some r := H
  have A7 := Aside0.mk A70
  clear A70
  have HC8 := Aside0.mk H
  clear H
  go_enter Try.func7, Try.ntmps7
  go_upto_region 8 with (first | ((with_reducible refine gate_callee (f := 26) rfl ?_); refine goesL_ (some 16) rfl rfl Try.func26 (by kernel_rfl) rfl #[.slice A0 l0.length c0, .int .i64 1048576] rfl amp_ ?_; (with_reducible refine (laws_szFractionS.calls _ _ l0 1048576 t229 _ ?side1 ?side2 A2.out).mono ?_); (case side1 => repeat (first | exact HR0.out | (with_reducible refine Kd.C_alloc ?_ _) | (with_reducible refine Kd.C_drewN ?_ _) | (with_reducible refine Kd.C_drew ?_))); (case side2 => exact HC0.out); rintro e w' ⟨rfl, ⟨nd, rfl⟩⟩; refine ⟨_, rfl, ?_⟩) | ((with_reducible refine gate_callee (f := 28) rfl ?_); refine goesL_ (some 21) rfl rfl Try.func28 (by kernel_rfl) rfl #[.slice A0 l0.length c0] rfl amp_ ?_; (with_reducible refine (laws_toFractionS.calls k _ _ l0 t230 _ ?side1 ?side2 A4.out).mono ?_); (case side1 => repeat (first | exact HR0.out | (with_reducible refine Kd.C_alloc ?_ _) | (with_reducible refine Kd.C_drewN ?_ _) | (with_reducible refine Kd.C_drew ?_))); (case side2 => exact HC0.out); rintro e w9 ⟨v231, rfl, ho0, hb⟩; refine ⟨_, rfl, ?_⟩; have n0_ := Aside0.mk (Kd.R_lower ho0 (below_size blw_)); have n1_ := Aside0.mk (below_step blw_ hb); clear HB; have HO232 := n0_; have HB := n1_; clear n0_ n1_; (try clear hb); (try clear hb2); (try clear hk); (try clear hi); (try clear ho0); obtain ⟨Ao10, co10, eo10⟩ := Kd.R_slice HO232.out; subst eo10) | ((with_reducible refine gate_callee (f := 33) rfl ?_); refine goesL_ (some 22) rfl rfl Try.func33 (by kernel_rfl) rfl #[.slice Ao10 t230.length co10] rfl amp_ ?_; (with_reducible refine (spec_QuiddityOfFractions.calls k _ _ t230 t233 t234 _ ?side1 ?side2 A5.out).mono ?_); (case side1 => repeat (first | exact (Kd.R_reads' HO232.out).2.2 | (with_reducible refine Kd.C_alloc ?_ _) | (with_reducible refine Kd.C_drewN ?_ _) | (with_reducible refine Kd.C_drew ?_))); (case side2 => exact (Kd.R_reads' HO232.out).2.1); rintro e w11 ⟨v235, rfl, ho0, hb⟩; refine ⟨_, rfl, ?_⟩; have n0_ := Aside0.mk (Kd.R_below (ra_ HO232.out) hb); have n1_ := Aside0.mk (Kd.R_lower ho0 (below_size blw_)); have n2_ := Aside0.mk (below_step blw_ hb); clear HO232; clear HB; have HO232 := n0_; have HO236 := n1_; have HB := n2_; clear n0_ n1_ n2_; (try clear hb); (try clear hb2); (try clear hk); (try clear hi); (try clear ho0)) | ((with_reducible refine gate_callee (f := 28) rfl ?_); refine goesL_ (some 26) rfl rfl Try.func28 (by kernel_rfl) rfl #[.slice A0 l0.length c0] rfl amp_ ?_; (with_reducible refine (laws_toFractionS.calls k _ _ l0 t237 _ ?side1 ?side2 A6.out).mono ?_); (case side1 => repeat (first | exact (Kd.C_below HR0.out HB.out) | (with_reducible refine Kd.C_alloc ?_ _) | (with_reducible refine Kd.C_drewN ?_ _) | (with_reducible refine Kd.C_drew ?_))); (case side2 => exact HC0.out); rintro e w12 ⟨v238, rfl, ho0, hb⟩; refine ⟨_, rfl, ?_⟩; have n0_ := Aside0.mk (Kd.R_elder' (ra_ HO232.out) (Kd.R_base ho0) hb); have n1_ := Aside0.mk (Kd.R_below (ra_ HO236.out) hb); have n2_ := Aside0.mk (Kd.R_lower (Kd.R_new' ho0 (Kd.R_lt (ra_ HO232.out))) (below_size blw_)); have n3_ := Aside0.mk (below_step blw_ hb); clear HO232; clear HO236; clear HB; have HO232 := n0_; have HO236 := n1_; have HO239 := n2_; have HB := n3_; clear n0_ n1_ n2_ n3_; (try clear hb); (try clear hb2); (try clear hk); (try clear hi); (try clear ho0); obtain ⟨Ao13, co13, eo13⟩ := Kd.R_slice HO239.out; subst eo13) | ((with_reducible refine gate_callee (f := 34) rfl ?_); refine goesL_ (some 29) rfl rfl Try.func34 (by kernel_rfl) rfl #[.slice Ao13 t237.length co13] rfl amp_ ?_; (with_reducible refine (impl_QuiddityOfFractions.calls k _ _ t237 t240 t241 _ ?side1 ?side2 A7.out).mono ?_); (case side1 => repeat (first | exact (Kd.R_reads' HO239.out).2.2 | (with_reducible refine Kd.C_alloc ?_ _) | (with_reducible refine Kd.C_drewN ?_ _) | (with_reducible refine Kd.C_drew ?_))); (case side2 => exact (Kd.R_reads' HO239.out).2.1); rintro e w14 ⟨v242, rfl, ho0, hb⟩; refine ⟨_, rfl, ?_⟩; have n0_ := Aside0.mk (Kd.R_below (ra_ HO232.out) hb); have n1_ := Aside0.mk (Kd.R_elder' (ra_ HO236.out) (Kd.R_base ho0) hb); have n2_ := Aside0.mk (Kd.R_below (ra_ HO239.out) hb); have n3_ := Aside0.mk (Kd.R_lower (Kd.R_new' ho0 (Kd.R_lt (ra_ HO236.out))) (below_size blw_)); have n4_ := Aside0.mk (below_step blw_ hb); clear HO232; clear HO236; clear HO239; clear HB; have HO232 := n0_; have HO236 := n1_; have HO239 := n2_; have HO243 := n3_; have HB := n4_; clear n0_ n1_ n2_ n3_ n4_; (try clear hb); (try clear hb2); (try clear hk); (try clear hi); (try clear ho0)))
  (try simp only [Act.put, List.setIfInBounds_toArray, List.set_cons_zero, List.set_cons_succ])
  go_cut [40] (fun v40 wc => ∃ (kq : Nat) (x40_7 : Bool), v40 = .bool x40_7 ∧ Aside0 (laws_FnExactQuiddityOfFractions.j0 kq l0 t233 t234 t237 t240 t241 x40_7 = some r) ∧ Aside0 (kq ≤ k) ∧ Aside0 (Kd.R (Kd.int .i64) 3 wc w.heap.size (fun k_ => some k_ ≠ (v242 : Value).ownBlock) v235 t233) ∧ Aside0 (Kd.R k32 32 wc w.heap.size (fun _ => True) (.slice Ao13 t237.length co13) t237) ∧ Aside0 (Kd.R (Kd.int .i64) 3 wc w.heap.size (fun k_ => some k_ ≠ (v235 : Value).ownBlock) v242 t240) ∧ Aside0 (Below w.heap.size w wc))
  case first =>
   have H := HC8.out
   clear HC8
   replace H := Option.bind_eq_some_iff.mp H
   obtain ⟨t244, A150, H⟩ := H
   replace H : (if t244 = true then (laws_FnExactQuiddityOfFractions.j0 k l0 t233 t234 t237 t240 t241 (t241 != t234)) else (laws_FnExactQuiddityOfFractions.j0 k l0 t233 t234 t237 t240 t241 true)) = some r := H
   have A15 := Aside0.mk A150
   clear A150
   by_cases c16 : t244 = true
   ·subst c16
    have H1 : (laws_FnExactQuiddityOfFractions.j0 k l0 t233 t234 t237 t240 t241 (t241 != t234)) = some r := by rw [if_pos rfl] at H; exact H
    clear H
    have H := H1
    clear H1
    have H' := Aside0.mk H
    clear H
    obtain ⟨Ao17, co17, eo17⟩ := Kd.R_slice HO243.out
    subst eo17
    obtain ⟨Ao18, co18, eo18⟩ := Kd.R_slice HO236.out
    subst eo18
    go_wp2_with (first | ((with_reducible refine gate_callee (f := 35) rfl ?_); refine goesL_ (some 34) rfl rfl Try.func35 (by kernel_rfl) rfl #[.slice Ao17 t240.length co17, .slice Ao18 t233.length co18] rfl amp_ ?_; (with_reducible refine (laws_eqIntS.calls k _ _ t240 _ _ t233 true _ ?side1 ?side2 ?side3 ?side4 A15.out).mono ?_); (case side1 => repeat (first | exact (Kd.R_reads' HO243.out).2.2 | (with_reducible refine Kd.C_alloc ?_ _) | (with_reducible refine Kd.C_drewN ?_ _) | (with_reducible refine Kd.C_drew ?_))); (case side2 => exact (Kd.R_reads' HO243.out).2.1); (case side3 => repeat (first | exact (Kd.R_reads' HO236.out).2.2 | (with_reducible refine Kd.C_alloc ?_ _) | (with_reducible refine Kd.C_drewN ?_ _) | (with_reducible refine Kd.C_drew ?_))); (case side4 => exact (Kd.R_reads' HO236.out).2.1); rintro e w' ⟨rfl, ⟨nd, rfl⟩⟩; refine ⟨_, rfl, ?_⟩))
    go_meet
    case rel => exact ⟨_, ((t241 != t234)), (by first | rfl | (simp; done) | (simp [*]; done)), H', ⟨by first | omega | exact Nat.le_refl _⟩, ⟨by (with_reducible repeat (first | apply Kd.R_alloc | apply Kd.R_drewN | apply Kd.R_drew)); exact Kd.R_mono HO236.out (fun _ hk => hk.2)⟩, ⟨by (with_reducible repeat (first | apply Kd.R_alloc | apply Kd.R_drewN | apply Kd.R_drew)); exact Kd.R_mono HO239.out (fun _ hk => trivial)⟩, ⟨by (with_reducible repeat (first | apply Kd.R_alloc | apply Kd.R_drewN | apply Kd.R_drew)); exact Kd.R_mono HO243.out (fun _ hk => hk.2)⟩, ⟨by repeat (first | (with_reducible first | exact HB.out | apply below_alloc | apply pw_below_drewN | apply below_drew1) | exact HB.out)⟩⟩
   ·replace c16 := Bool.eq_false_iff.mpr c16
    subst c16
    have H1 : (laws_FnExactQuiddityOfFractions.j0 k l0 t233 t234 t237 t240 t241 true) = some r := by rw [if_neg (show ¬ (false = true) by decide)] at H; exact H
    clear H
    have H := H1
    clear H1
    have H' := Aside0.mk H
    clear H
    obtain ⟨Ao19, co19, eo19⟩ := Kd.R_slice HO243.out
    subst eo19
    obtain ⟨Ao20, co20, eo20⟩ := Kd.R_slice HO236.out
    subst eo20
    go_wp2_with (first | ((with_reducible refine gate_callee (f := 35) rfl ?_); refine goesL_ (some 34) rfl rfl Try.func35 (by kernel_rfl) rfl #[.slice Ao19 t240.length co19, .slice Ao20 t233.length co20] rfl amp_ ?_; (with_reducible refine (laws_eqIntS.calls k _ _ t240 _ _ t233 false _ ?side1 ?side2 ?side3 ?side4 A15.out).mono ?_); (case side1 => repeat (first | exact (Kd.R_reads' HO243.out).2.2 | (with_reducible refine Kd.C_alloc ?_ _) | (with_reducible refine Kd.C_drewN ?_ _) | (with_reducible refine Kd.C_drew ?_))); (case side2 => exact (Kd.R_reads' HO243.out).2.1); (case side3 => repeat (first | exact (Kd.R_reads' HO236.out).2.2 | (with_reducible refine Kd.C_alloc ?_ _) | (with_reducible refine Kd.C_drewN ?_ _) | (with_reducible refine Kd.C_drew ?_))); (case side4 => exact (Kd.R_reads' HO236.out).2.1); rintro e w' ⟨rfl, ⟨nd, rfl⟩⟩; refine ⟨_, rfl, ?_⟩))
    go_meet
    case rel => exact ⟨_, (true), (by first | rfl | (simp; done) | (simp [*]; done)), H', ⟨by first | omega | exact Nat.le_refl _⟩, ⟨by (with_reducible repeat (first | apply Kd.R_alloc | apply Kd.R_drewN | apply Kd.R_drew)); exact Kd.R_mono HO236.out (fun _ hk => hk.2)⟩, ⟨by (with_reducible repeat (first | apply Kd.R_alloc | apply Kd.R_drewN | apply Kd.R_drew)); exact Kd.R_mono HO239.out (fun _ hk => trivial)⟩, ⟨by (with_reducible repeat (first | apply Kd.R_alloc | apply Kd.R_drewN | apply Kd.R_drew)); exact Kd.R_mono HO243.out (fun _ hk => hk.2)⟩, ⟨by repeat (first | (with_reducible first | exact HB.out | apply below_alloc | apply pw_below_drewN | apply below_drew1) | exact HB.out)⟩⟩
  case rest =>
   clear HC8
   try clear c1
   try clear c2
   try clear p2
   try clear c3
   try clear c3b0
   try clear c7
   try clear c16
   obtain ⟨kq, x40_7, rfl, HA, HJ7, HO_4, HO_6, HO_7, HB⟩ := hcut
   cases kq with
   | zero => exact absurd HA.out (by simp [laws_FnExactQuiddityOfFractions.j0])
   | succ kj7 =>
    have H := HA.out
    clear HA
    simp only [laws_FnExactQuiddityOfFractions.j0] at H
    by_cases c21 : x40_7 = true
    ·subst c21
     have H1 : (some false) = some r := by rw [if_pos rfl] at H; exact H
     clear H
     have H := H1
     clear H1
     exact absurd (H.trans (congrArg some htrue.out)) (by decide)
    ·replace c21 := Bool.eq_false_iff.mpr c21
     subst c21
     have H1 : ((laws_toFractionS.f kj7 l0).bind fun t245 => ((laws_eqFractionS.f kj7 t237 t245).bind fun t248 => (if t248 = true then ((laws_markFractionS.f kj7 t237 1).bind fun bt249 => (if bt249.1 < 0 then (laws_FnExactQuiddityOfFractions.j1 kj7 l0 t233 t234 t240 true) else ((laws_eqIntS.f kj7 t240 t233).bind fun t251 => (if t251 = true then (laws_FnExactQuiddityOfFractions.j1 kj7 l0 t233 t234 t240 (t241 != t234)) else (laws_FnExactQuiddityOfFractions.j1 kj7 l0 t233 t234 t240 true))))) else (some false)))) = some r := by rw [if_neg (show ¬ (false = true) by decide)] at H; exact H
     clear H
     have H := H1
     clear H1
     replace H := Option.bind_eq_some_iff.mp H
     obtain ⟨t245, A220, H⟩ := H
     replace H : ((laws_eqFractionS.f kj7 t237 t245).bind fun t248 => (if t248 = true then ((laws_markFractionS.f kj7 t237 1).bind fun bt249 => (if bt249.1 < 0 then (laws_FnExactQuiddityOfFractions.j1 kj7 l0 t233 t234 t240 true) else ((laws_eqIntS.f kj7 t240 t233).bind fun t251 => (if t251 = true then (laws_FnExactQuiddityOfFractions.j1 kj7 l0 t233 t234 t240 (t241 != t234)) else (laws_FnExactQuiddityOfFractions.j1 kj7 l0 t233 t234 t240 true))))) else (some false))) = some r := H
     have A22 := Aside0.mk A220
     clear A220
     replace H := Option.bind_eq_some_iff.mp H
     obtain ⟨t248, A230, H⟩ := H
     replace H : (if t248 = true then ((laws_markFractionS.f kj7 t237 1).bind fun bt249 => (if bt249.1 < 0 then (laws_FnExactQuiddityOfFractions.j1 kj7 l0 t233 t234 t240 true) else ((laws_eqIntS.f kj7 t240 t233).bind fun t251 => (if t251 = true then (laws_FnExactQuiddityOfFractions.j1 kj7 l0 t233 t234 t240 (t241 != t234)) else (laws_FnExactQuiddityOfFractions.j1 kj7 l0 t233 t234 t240 true))))) else (some false)) = some r := H
     have A23 := Aside0.mk A230
     clear A230
     by_cases c24 : t248 = true
     ·subst c24
      have H1 : ((laws_markFractionS.f kj7 t237 1).bind fun bt249 => (if bt249.1 < 0 then (laws_FnExactQuiddityOfFractions.j1 kj7 l0 t233 t234 t240 true) else ((laws_eqIntS.f kj7 t240 t233).bind fun t251 => (if t251 = true then (laws_FnExactQuiddityOfFractions.j1 kj7 l0 t233 t234 t240 (t241 != t234)) else (laws_FnExactQuiddityOfFractions.j1 kj7 l0 t233 t234 t240 true))))) = some r := by rw [if_pos rfl] at H; exact H
      clear H
      have H := H1
      clear H1
      replace H := Option.bind_eq_some_iff.mp H
      obtain ⟨⟨t249, t250⟩, A250, H⟩ := H
      replace H : (if t249 < 0 then (laws_FnExactQuiddityOfFractions.j1 kj7 l0 t233 t234 t240 true) else ((laws_eqIntS.f kj7 t240 t233).bind fun t251 => (if t251 = true then (laws_FnExactQuiddityOfFractions.j1 kj7 l0 t233 t234 t240 (t241 != t234)) else (laws_FnExactQuiddityOfFractions.j1 kj7 l0 t233 t234 t240 true)))) = some r := H
      have A25 := Aside0.mk A250
      clear A250
      have HC26 := Aside0.mk H
      clear H
      go_upto_region 14 with (first | ((with_reducible refine gate_callee (f := 28) rfl ?_); refine goesL_ (some 43) rfl rfl Try.func28 (by kernel_rfl) rfl #[.slice A0 l0.length c0] rfl amp_ ?_; (with_reducible refine (laws_toFractionS.calls kj7 _ _ l0 t245 _ ?side1 ?side2 A22.out).mono ?_); (case side1 => repeat (first | exact (Kd.C_below HR0.out HB.out) | (with_reducible refine Kd.C_alloc ?_ _) | (with_reducible refine Kd.C_drewN ?_ _) | (with_reducible refine Kd.C_drew ?_))); (case side2 => exact HC0.out); rintro e w27 ⟨v246, rfl, ho0, hb⟩; refine ⟨_, rfl, ?_⟩; have n0_ := Aside0.mk (Kd.R_below (ra_ HO_4.out) hb); have n1_ := Aside0.mk (Kd.R_elder' (ra_ HO_6.out) (Kd.R_base ho0) hb); have n2_ := Aside0.mk (Kd.R_below (ra_ HO_7.out) hb); have n3_ := Aside0.mk (Kd.R_lower (Kd.R_new' ho0 (Kd.R_lt (ra_ HO_6.out))) (below_size blw_)); have n4_ := Aside0.mk (below_step blw_ hb); clear HO_4; clear HO_6; clear HO_7; clear HB; have HO_4 := n0_; have HO_6 := n1_; have HO_7 := n2_; have HO247 := n3_; have HB := n4_; clear n0_ n1_ n2_ n3_ n4_; (try clear hb); (try clear hb2); (try clear hk); (try clear hi); (try clear ho0); obtain ⟨Ao28, co28, eo28⟩ := Kd.R_slice HO247.out; subst eo28) | ((with_reducible refine gate_callee (f := 17) rfl ?_); refine goesL_ (some 44) rfl rfl Try.func17 (by kernel_rfl) rfl #[.slice Ao13 t237.length co13, .slice Ao28 t245.length co28] rfl amp_ ?_; (with_reducible refine (laws_eqFractionS.calls kj7 _ _ t237 _ _ t245 true _ ?side1 ?side2 ?side3 ?side4 A23.out).mono ?_); (case side1 => repeat (first | exact (Kd.R_reads' HO_6.out).2.2 | (with_reducible refine Kd.C_alloc ?_ _) | (with_reducible refine Kd.C_drewN ?_ _) | (with_reducible refine Kd.C_drew ?_))); (case side2 => exact (Kd.R_reads' HO_6.out).2.1); (case side3 => repeat (first | exact (Kd.R_reads' HO247.out).2.2 | (with_reducible refine Kd.C_alloc ?_ _) | (with_reducible refine Kd.C_drewN ?_ _) | (with_reducible refine Kd.C_drew ?_))); (case side4 => exact (Kd.R_reads' HO247.out).2.1); rintro e w29 ⟨rfl, hb⟩; refine ⟨_, rfl, ?_⟩; have n0_ := Aside0.mk (Kd.R_below (ra_ HO_4.out) hb); have n1_ := Aside0.mk (Kd.R_below (ra_ HO_6.out) hb); have n2_ := Aside0.mk (Kd.R_below (ra_ HO_7.out) hb); have n3_ := Aside0.mk (Kd.R_below (ra_ HO247.out) hb); have n4_ := Aside0.mk (below_step blw_ hb); clear HO_4; clear HO_6; clear HO_7; clear HO247; clear HB; have HO_4 := n0_; have HO_6 := n1_; have HO_7 := n2_; have HO247 := n3_; have HB := n4_; clear n0_ n1_ n2_ n3_ n4_; (try clear hb); (try clear hb2); (try clear hk); (try clear hi)) | ((with_reducible refine gate_callee (f := 18) rfl ?_); refine goesL_ (some 48) rfl rfl Try.func18 (by kernel_rfl) rfl #[.slice Ao13 t237.length co13, .int .i64 1] rfl amp_ ?_; (with_reducible refine (laws_markFractionS.calls kj7 (fun k_ => some k_ = (.slice Ao13 t237.length co13 : Value).ownBlock) (.slice Ao13 t237.length co13) t237 1 t249 t250 w _ ?side1 ?side2 A25.out).mono ?_); (case side1 => repeat (first | (with_reducible first | exact HB.out | apply below_alloc | apply pw_below_drewN | apply below_drew1) | exact HB.out)); (case side2 => exact Kd.R_tight rfl HO_6.out); rintro e w30 ⟨rfl, hy0, hb, hkp⟩; refine ⟨_, rfl, ?_⟩; have n0_ := Aside0.mk (Kd.R_mono (ok' := fun k_ => some k_ ≠ (v242 : Value).ownBlock) (Kd.R_keptB ((Kd.R_apart' HO_4.out (Kd.R_typed HO_6.out) (by decide))) hkp (fun k_ hk_ hs_ => (hk_.2) hs_)) (fun k_ hk_ => hk_.1.1)); have n1_ := Aside0.mk (Kd.R_reok rfl hy0 (fun k_ e_ => HO_6.out.1 k_ e_)); have n2_ := Aside0.mk (Kd.R_mono (ok' := fun k_ => some k_ ≠ (v235 : Value).ownBlock) (Kd.R_keptB ((Kd.R_apart' HO_7.out (Kd.R_typed HO_6.out) (by decide))) hkp (fun k_ hk_ hs_ => (hk_.2) hs_)) (fun k_ hk_ => hk_.1.1)); have n3_ := Aside0.mk (Kd.R_mono (ok' := fun k_ => some k_ ≠ (.slice Ao13 t237.length co13 : Value).ownBlock) (Kd.R_keptB (HO247.out) hkp (fun k_ hk_ hs_ => (hk_.2) hs_)) (fun k_ hk_ => hk_.1.2)); have n4_ := Aside0.mk (hb); clear HO_4; clear HO_6; clear HO_7; clear HO247; clear HB; have HO_4 := n0_; have HO_6 := n1_; have HO_7 := n2_; have HO247 := n3_; have HB := n4_; clear n0_ n1_ n2_ n3_ n4_; (try clear hb); (try clear hkp); (try clear hy0)))
      (try simp only [Act.put, List.setIfInBounds_toArray, List.set_cons_zero, List.set_cons_succ])
      go_cut [61] (fun v61 wc => ∃ (kq : Nat) (x61_25 : Bool), v61 = .bool x61_25 ∧ Aside0 (laws_FnExactQuiddityOfFractions.j1 kq l0 t233 t234 t240 x61_25 = some r) ∧ Aside0 (kq ≤ kj7) ∧ Aside0 (Kd.R (Kd.int .i64) 3 wc w.heap.size (fun k_ => some k_ ≠ (v242 : Value).ownBlock) v235 t233) ∧ Aside0 (Kd.R (Kd.int .i64) 3 wc w.heap.size (fun k_ => some k_ ≠ (v235 : Value).ownBlock) v242 t240) ∧ Aside0 (Below w.heap.size w wc))
      case first =>
       have H := HC26.out
       clear HC26
       by_cases c31 : t249 < 0
       ·rw [if_pos c31] at H
        have c31b0 : decide (t249 < 0) = true := decide_eq_true c31
        clear c31
        (first | rw [c31b0] | (simp only [i64_w, i32_w]; rw [c31b0]) | skip)
        have H' := Aside0.mk H
        clear H
        go_wp2
        go_meet
        case rel => exact ⟨_, (true), (by first | rfl | (simp; done) | (simp [*]; done)), H', ⟨by have := HJ7.out; first | omega | exact Nat.le_refl _⟩, ⟨ra_ HO_4.out⟩, ⟨ra_ HO_7.out⟩, ⟨by repeat (first | (with_reducible first | exact HB.out | apply below_alloc | apply pw_below_drewN | apply below_drew1) | exact HB.out)⟩⟩
       ·rw [if_neg c31] at H
        have c31b0 : decide (t249 < 0) = false := decide_eq_false c31
        clear c31
        (first | rw [c31b0] | (simp only [i64_w, i32_w]; rw [c31b0]) | skip)
        replace H := Option.bind_eq_some_iff.mp H
        obtain ⟨t251, A320, H⟩ := H
        replace H : (if t251 = true then (laws_FnExactQuiddityOfFractions.j1 kj7 l0 t233 t234 t240 (t241 != t234)) else (laws_FnExactQuiddityOfFractions.j1 kj7 l0 t233 t234 t240 true)) = some r := H
        have A32 := Aside0.mk A320
        clear A320
        by_cases c33 : t251 = true
        ·subst c33
         have H1 : (laws_FnExactQuiddityOfFractions.j1 kj7 l0 t233 t234 t240 (t241 != t234)) = some r := by rw [if_pos rfl] at H; exact H
         clear H
         have H := H1
         clear H1
         have H' := Aside0.mk H
         clear H
         obtain ⟨Ao34, co34, eo34⟩ := Kd.R_slice HO_7.out
         subst eo34
         obtain ⟨Ao35, co35, eo35⟩ := Kd.R_slice HO_4.out
         subst eo35
         go_wp2_with (first | (go_at_call 35; (with_reducible refine (laws_eqIntS.calls kj7 _ _ t240 _ _ t233 true _ ?side1 ?side2 ?side3 ?side4 A32.out).mono ?_); (case side1 => repeat (first | exact (Kd.R_reads' HO_7.out).2.2 | (with_reducible refine Kd.C_alloc ?_ _) | (with_reducible refine Kd.C_drewN ?_ _) | (with_reducible refine Kd.C_drew ?_))); (case side2 => exact (Kd.R_reads' HO_7.out).2.1); (case side3 => repeat (first | exact (Kd.R_reads' HO_4.out).2.2 | (with_reducible refine Kd.C_alloc ?_ _) | (with_reducible refine Kd.C_drewN ?_ _) | (with_reducible refine Kd.C_drew ?_))); (case side4 => exact (Kd.R_reads' HO_4.out).2.1); rintro e w' ⟨rfl, ⟨nd, rfl⟩⟩))
         go_meet
         case rel => exact ⟨_, ((t241 != t234)), (by first | rfl | (simp; done) | (simp [*]; done)), H', ⟨by have := HJ7.out; first | omega | exact Nat.le_refl _⟩, ⟨ra_ HO_4.out⟩, ⟨ra_ HO_7.out⟩, ⟨by repeat (first | (with_reducible first | exact HB.out | apply below_alloc | apply pw_below_drewN | apply below_drew1) | exact HB.out)⟩⟩
        ·replace c33 := Bool.eq_false_iff.mpr c33
         subst c33
         have H1 : (laws_FnExactQuiddityOfFractions.j1 kj7 l0 t233 t234 t240 true) = some r := by rw [if_neg (show ¬ (false = true) by decide)] at H; exact H
         clear H
         have H := H1
         clear H1
         have H' := Aside0.mk H
         clear H
         obtain ⟨Ao36, co36, eo36⟩ := Kd.R_slice HO_7.out
         subst eo36
         obtain ⟨Ao37, co37, eo37⟩ := Kd.R_slice HO_4.out
         subst eo37
         go_wp2_with (first | (go_at_call 35; (with_reducible refine (laws_eqIntS.calls kj7 _ _ t240 _ _ t233 false _ ?side1 ?side2 ?side3 ?side4 A32.out).mono ?_); (case side1 => repeat (first | exact (Kd.R_reads' HO_7.out).2.2 | (with_reducible refine Kd.C_alloc ?_ _) | (with_reducible refine Kd.C_drewN ?_ _) | (with_reducible refine Kd.C_drew ?_))); (case side2 => exact (Kd.R_reads' HO_7.out).2.1); (case side3 => repeat (first | exact (Kd.R_reads' HO_4.out).2.2 | (with_reducible refine Kd.C_alloc ?_ _) | (with_reducible refine Kd.C_drewN ?_ _) | (with_reducible refine Kd.C_drew ?_))); (case side4 => exact (Kd.R_reads' HO_4.out).2.1); rintro e w' ⟨rfl, ⟨nd, rfl⟩⟩))
         go_meet
         case rel => exact ⟨_, (true), (by first | rfl | (simp; done) | (simp [*]; done)), H', ⟨by have := HJ7.out; first | omega | exact Nat.le_refl _⟩, ⟨ra_ HO_4.out⟩, ⟨ra_ HO_7.out⟩, ⟨by repeat (first | (with_reducible first | exact HB.out | apply below_alloc | apply pw_below_drewN | apply below_drew1) | exact HB.out)⟩⟩
      case rest =>
       clear HC26
       try clear c1
       try clear c2
       try clear p2
       try clear c3
       try clear c3b0
       try clear c7
       try clear c16
       try clear c17
       try clear c18
       try clear c21
       try clear c24
       try clear c26
       try clear c28
       try clear c31
       try clear c31b0
       try clear c33
       try clear c34
       try clear c35
       try clear p2
       obtain ⟨kq, x61_25, rfl, HA, HJ25, HO_4, HO_7, HB⟩ := hcut
       cases kq with
       | zero => exact absurd HA.out (by simp [laws_FnExactQuiddityOfFractions.j1])
       | succ kj25 =>
        have H := HA.out
        clear HA
        simp only [laws_FnExactQuiddityOfFractions.j1] at H
        by_cases c38 : x61_25 = true
        ·subst c38
         have H1 : (some false) = some r := by rw [if_pos rfl] at H; exact H
         clear H
         have H := H1
         clear H1
         exact absurd (H.trans (congrArg some htrue.out)) (by decide)
        ·replace c38 := Bool.eq_false_iff.mpr c38
         subst c38
         have H1 : ((laws_markIntS.f kj25 t240 1).bind fun bt252 => ((laws_heldIntS.f kj25 bt252.2 1).bind fun t254 => (if t254 < 0 then (some false) else (if t254 = bt252.1 then ((laws_toFractionS.f kj25 l0).bind fun t255 => ((impl_QuiddityOfFractions.f kj25 t255).bind fun bt258 => ((laws_eqIntS.f kj25 bt258.1 t233).bind fun t262 => (if t262 = true then (laws_FnExactQuiddityOfFractions.j2 kj25 bt252.2 bt252.1 (bt258.2 != t234)) else (laws_FnExactQuiddityOfFractions.j2 kj25 bt252.2 bt252.1 true))))) else (some false))))) = some r := by rw [if_neg (show ¬ (false = true) by decide)] at H; exact H
         clear H
         have H := H1
         clear H1
         replace H := Option.bind_eq_some_iff.mp H
         obtain ⟨⟨t252, t253⟩, A390, H⟩ := H
         replace H : ((laws_heldIntS.f kj25 t253 1).bind fun t254 => (if t254 < 0 then (some false) else (if t254 = t252 then ((laws_toFractionS.f kj25 l0).bind fun t255 => ((impl_QuiddityOfFractions.f kj25 t255).bind fun bt258 => ((laws_eqIntS.f kj25 bt258.1 t233).bind fun t262 => (if t262 = true then (laws_FnExactQuiddityOfFractions.j2 kj25 t253 t252 (bt258.2 != t234)) else (laws_FnExactQuiddityOfFractions.j2 kj25 t253 t252 true))))) else (some false)))) = some r := H
         have A39 := Aside0.mk A390
         clear A390
         replace H := Option.bind_eq_some_iff.mp H
         obtain ⟨t254, A400, H⟩ := H
         replace H : (if t254 < 0 then (some false) else (if t254 = t252 then ((laws_toFractionS.f kj25 l0).bind fun t255 => ((impl_QuiddityOfFractions.f kj25 t255).bind fun bt258 => ((laws_eqIntS.f kj25 bt258.1 t233).bind fun t262 => (if t262 = true then (laws_FnExactQuiddityOfFractions.j2 kj25 t253 t252 (bt258.2 != t234)) else (laws_FnExactQuiddityOfFractions.j2 kj25 t253 t252 true))))) else (some false))) = some r := H
         have A40 := Aside0.mk A400
         clear A400
         by_cases c41 : t254 < 0
         ·rw [if_pos c41] at H
          have c41b0 : decide (t254 < 0) = true := decide_eq_true c41
          clear c41
          exact absurd (H.trans (congrArg some htrue.out)) (by decide)
         ·rw [if_neg c41] at H
          have c41b0 : decide (t254 < 0) = false := decide_eq_false c41
          clear c41
          by_cases c42 : t254 = t252
          ·rw [if_pos c42] at H
           have c42b0 : (t254 == t252) = true := beq_iff_eq.mpr c42
           have c42b1 : (t254 != t252) = false := bne_eq_false_iff_eq.mpr c42
           clear c42
           replace H := Option.bind_eq_some_iff.mp H
           obtain ⟨t255, A430, H⟩ := H
           replace H : ((impl_QuiddityOfFractions.f kj25 t255).bind fun bt258 => ((laws_eqIntS.f kj25 bt258.1 t233).bind fun t262 => (if t262 = true then (laws_FnExactQuiddityOfFractions.j2 kj25 t253 t252 (bt258.2 != t234)) else (laws_FnExactQuiddityOfFractions.j2 kj25 t253 t252 true)))) = some r := H
           have A43 := Aside0.mk A430
           clear A430
           replace H := Option.bind_eq_some_iff.mp H
           obtain ⟨⟨t258, t259⟩, A440, H⟩ := H
           replace H : ((laws_eqIntS.f kj25 t258 t233).bind fun t262 => (if t262 = true then (laws_FnExactQuiddityOfFractions.j2 kj25 t253 t252 (t259 != t234)) else (laws_FnExactQuiddityOfFractions.j2 kj25 t253 t252 true))) = some r := H
           have A44 := Aside0.mk A440
           clear A440
           have HC45 := Aside0.mk H
           clear H
           obtain ⟨Ao46, co46, eo46⟩ := Kd.R_slice HO_7.out
           subst eo46
           go_upto_region 25 with (first | ((with_reducible refine gate_callee (f := 36) rfl ?_); refine goesL_ (some 64) rfl rfl Try.func36 (by kernel_rfl) rfl #[.slice Ao46 t240.length co46, .int .i64 1] rfl amp_ ?_; (with_reducible refine (laws_markIntS.calls kj25 (fun k_ => some k_ = (.slice Ao46 t240.length co46 : Value).ownBlock) (.slice Ao46 t240.length co46) t240 1 t252 t253 w _ ?side1 ?side2 A39.out).mono ?_); (case side1 => repeat (first | (with_reducible first | exact HB.out | apply below_alloc | apply pw_below_drewN | apply below_drew1) | exact HB.out)); (case side2 => exact Kd.R_tight rfl HO_7.out); rintro e w47 ⟨rfl, hy0, hb, hkp⟩; refine ⟨_, rfl, ?_⟩; have n0_ := Aside0.mk (Kd.R_mono (ok' := fun k_ => some k_ ≠ (.slice Ao46 t240.length co46 : Value).ownBlock) (Kd.R_keptB (HO_4.out) hkp (fun k_ hk_ hs_ => (hk_) hs_)) (fun k_ hk_ => hk_.1)); have n1_ := Aside0.mk (Kd.R_reok rfl hy0 (fun k_ e_ => HO_7.out.1 k_ e_)); have n2_ := Aside0.mk (hb); clear HO_4; clear HO_7; clear HB; have HO_4 := n0_; have HO_7 := n1_; have HB := n2_; clear n0_ n1_ n2_; (try clear hb); (try clear hkp); (try clear hy0)) | ((with_reducible refine gate_callee (f := 37) rfl ?_); refine goesL_ (some 67) rfl rfl Try.func37 (by kernel_rfl) rfl #[.slice Ao46 t253.length co46, .int .i64 1] rfl (by (try simp only [List.map_toArray, List.map_cons, List.map_nil]); first | done | (rw [show t253.length = t240.length from (Kd.R_reads' HO_7.out).1.symm] <;> rfl) | rfl | (simp only [List.length_drop, List.length_take]; rfl)) ?_; (with_reducible refine (laws_heldIntS.calls kj25 _ _ t253 1 t254 _ ?side1 ?side2 A40.out).mono ?_); (case side1 => repeat (first | exact (Kd.R_reads' HO_7.out).2.2 | (with_reducible refine Kd.C_alloc ?_ _) | (with_reducible refine Kd.C_drewN ?_ _) | (with_reducible refine Kd.C_drew ?_))); (case side2 => rw [show t253.length = t240.length from (Kd.R_reads' HO_7.out).1.symm]; exact (Kd.R_reads' HO_7.out).2.1); rintro e w' ⟨rfl, ⟨nd, rfl⟩⟩; refine ⟨_, rfl, ?_⟩) | ((with_reducible refine gate_callee (f := 28) rfl ?_); refine goesL_ (some 75) rfl rfl Try.func28 (by kernel_rfl) rfl #[.slice A0 l0.length c0] rfl amp_ ?_; (with_reducible refine (laws_toFractionS.calls kj25 _ _ l0 t255 _ ?side1 ?side2 A43.out).mono ?_); (case side1 => repeat (first | exact (Kd.C_below HR0.out blw_) | (with_reducible refine Kd.C_alloc ?_ _) | (with_reducible refine Kd.C_drewN ?_ _) | (with_reducible refine Kd.C_drew ?_))); (case side2 => exact HC0.out); rintro e w48 ⟨v256, rfl, ho0, hb⟩; refine ⟨_, rfl, ?_⟩; have n0_ := Aside0.mk (Kd.R_below (ra_ HO_4.out) hb); have n1_ := Aside0.mk (Kd.R_below (ra_ HO_7.out) hb); have n2_ := Aside0.mk (Kd.R_lower ho0 (below_size blw_)); have n3_ := Aside0.mk (below_step blw_ hb); clear HO_4; clear HO_7; clear HB; have HO_4 := n0_; have HO_7 := n1_; have HO257 := n2_; have HB := n3_; clear n0_ n1_ n2_ n3_; (try clear hb); (try clear hb2); (try clear hk); (try clear hi); (try clear ho0); obtain ⟨Ao49, co49, eo49⟩ := Kd.R_slice HO257.out; subst eo49) | ((with_reducible refine gate_callee (f := 34) rfl ?_); refine goesL_ (some 76) rfl rfl Try.func34 (by kernel_rfl) rfl #[.slice Ao49 t255.length co49] rfl amp_ ?_; (with_reducible refine (impl_QuiddityOfFractions.calls kj25 _ _ t255 t258 t259 _ ?side1 ?side2 A44.out).mono ?_); (case side1 => repeat (first | exact (Kd.R_reads' HO257.out).2.2 | (with_reducible refine Kd.C_alloc ?_ _) | (with_reducible refine Kd.C_drewN ?_ _) | (with_reducible refine Kd.C_drew ?_))); (case side2 => exact (Kd.R_reads' HO257.out).2.1); rintro e w50 ⟨v260, rfl, ho0, hb⟩; refine ⟨_, rfl, ?_⟩; have n0_ := Aside0.mk (Kd.R_elder' (ra_ HO_4.out) (Kd.R_base ho0) hb); have n1_ := Aside0.mk (Kd.R_elder' (ra_ HO_7.out) (Kd.R_base ho0) hb); have n2_ := Aside0.mk (Kd.R_below (ra_ HO257.out) hb); have n3_ := Aside0.mk (Kd.R_lower (Kd.R_new' (Kd.R_new' ho0 (Kd.R_lt (ra_ HO_4.out))) (Kd.R_lt (ra_ HO_7.out))) (below_size blw_)); have n4_ := Aside0.mk (below_step blw_ hb); clear HO_4; clear HO_7; clear HO257; clear HB; have HO_4 := n0_; have HO_7 := n1_; have HO257 := n2_; have HO261 := n3_; have HB := n4_; clear n0_ n1_ n2_ n3_ n4_; (try clear hb); (try clear hb2); (try clear hk); (try clear hi); (try clear ho0)))
           (try simp only [Act.put, List.setIfInBounds_toArray, List.set_cons_zero, List.set_cons_succ])
           go_cut [87] (fun v87 wc => ∃ (kq : Nat) (x87_44 : Bool), v87 = .bool x87_44 ∧ Aside0 (laws_FnExactQuiddityOfFractions.j2 kq t253 t252 x87_44 = some r) ∧ Aside0 (kq ≤ kj25) ∧ Aside0 (Kd.R (Kd.int .i64) 3 wc w.heap.size (fun _ => True) (.slice Ao46 t240.length co46) t253) ∧ Aside0 (Below w.heap.size w wc))
           case first =>
            have H := HC45.out
            clear HC45
            replace H := Option.bind_eq_some_iff.mp H
            obtain ⟨t262, A510, H⟩ := H
            replace H : (if t262 = true then (laws_FnExactQuiddityOfFractions.j2 kj25 t253 t252 (t259 != t234)) else (laws_FnExactQuiddityOfFractions.j2 kj25 t253 t252 true)) = some r := H
            have A51 := Aside0.mk A510
            clear A510
            by_cases c52 : t262 = true
            ·subst c52
             have H1 : (laws_FnExactQuiddityOfFractions.j2 kj25 t253 t252 (t259 != t234)) = some r := by rw [if_pos rfl] at H; exact H
             clear H
             have H := H1
             clear H1
             have H' := Aside0.mk H
             clear H
             obtain ⟨Ao53, co53, eo53⟩ := Kd.R_slice HO261.out
             subst eo53
             obtain ⟨Ao54, co54, eo54⟩ := Kd.R_slice HO_4.out
             subst eo54
             go_wp2_with (first | ((with_reducible refine gate_callee (f := 35) rfl ?_); refine goesL_ (some 81) rfl rfl Try.func35 (by kernel_rfl) rfl #[.slice Ao53 t258.length co53, .slice Ao54 t233.length co54] rfl amp_ ?_; (with_reducible refine (laws_eqIntS.calls kj25 _ _ t258 _ _ t233 true _ ?side1 ?side2 ?side3 ?side4 A51.out).mono ?_); (case side1 => repeat (first | exact (Kd.R_reads' HO261.out).2.2 | (with_reducible refine Kd.C_alloc ?_ _) | (with_reducible refine Kd.C_drewN ?_ _) | (with_reducible refine Kd.C_drew ?_))); (case side2 => exact (Kd.R_reads' HO261.out).2.1); (case side3 => repeat (first | exact (Kd.R_reads' HO_4.out).2.2 | (with_reducible refine Kd.C_alloc ?_ _) | (with_reducible refine Kd.C_drewN ?_ _) | (with_reducible refine Kd.C_drew ?_))); (case side4 => exact (Kd.R_reads' HO_4.out).2.1); rintro e w' ⟨rfl, ⟨nd, rfl⟩⟩; refine ⟨_, rfl, ?_⟩))
             go_meet
             case rel => exact ⟨_, ((t259 != t234)), (by first | rfl | (simp; done) | (simp [*]; done)), H', ⟨by have := HJ7.out; have := HJ25.out; first | omega | exact Nat.le_refl _⟩, ⟨by (with_reducible repeat (first | apply Kd.R_alloc | apply Kd.R_drewN | apply Kd.R_drew)); exact Kd.R_mono HO_7.out (fun _ hk => trivial)⟩, ⟨by repeat (first | (with_reducible first | exact HB.out | apply below_alloc | apply pw_below_drewN | apply below_drew1) | exact HB.out)⟩⟩
            ·replace c52 := Bool.eq_false_iff.mpr c52
             subst c52
             have H1 : (laws_FnExactQuiddityOfFractions.j2 kj25 t253 t252 true) = some r := by rw [if_neg (show ¬ (false = true) by decide)] at H; exact H
             clear H
             have H := H1
             clear H1
             have H' := Aside0.mk H
             clear H
             obtain ⟨Ao55, co55, eo55⟩ := Kd.R_slice HO261.out
             subst eo55
             obtain ⟨Ao56, co56, eo56⟩ := Kd.R_slice HO_4.out
             subst eo56
             go_wp2_with (first | ((with_reducible refine gate_callee (f := 35) rfl ?_); refine goesL_ (some 81) rfl rfl Try.func35 (by kernel_rfl) rfl #[.slice Ao55 t258.length co55, .slice Ao56 t233.length co56] rfl amp_ ?_; (with_reducible refine (laws_eqIntS.calls kj25 _ _ t258 _ _ t233 false _ ?side1 ?side2 ?side3 ?side4 A51.out).mono ?_); (case side1 => repeat (first | exact (Kd.R_reads' HO261.out).2.2 | (with_reducible refine Kd.C_alloc ?_ _) | (with_reducible refine Kd.C_drewN ?_ _) | (with_reducible refine Kd.C_drew ?_))); (case side2 => exact (Kd.R_reads' HO261.out).2.1); (case side3 => repeat (first | exact (Kd.R_reads' HO_4.out).2.2 | (with_reducible refine Kd.C_alloc ?_ _) | (with_reducible refine Kd.C_drewN ?_ _) | (with_reducible refine Kd.C_drew ?_))); (case side4 => exact (Kd.R_reads' HO_4.out).2.1); rintro e w' ⟨rfl, ⟨nd, rfl⟩⟩; refine ⟨_, rfl, ?_⟩))
             go_meet
             case rel => exact ⟨_, (true), (by first | rfl | (simp; done) | (simp [*]; done)), H', ⟨by have := HJ7.out; have := HJ25.out; first | omega | exact Nat.le_refl _⟩, ⟨by (with_reducible repeat (first | apply Kd.R_alloc | apply Kd.R_drewN | apply Kd.R_drew)); exact Kd.R_mono HO_7.out (fun _ hk => trivial)⟩, ⟨by repeat (first | (with_reducible first | exact HB.out | apply below_alloc | apply pw_below_drewN | apply below_drew1) | exact HB.out)⟩⟩
           case rest =>
            clear HC45
            try clear c1
            try clear c2
            try clear p2
            try clear c3
            try clear c3b0
            try clear c4
            try clear c5
            try clear c7
            try clear c16
            try clear c17
            try clear c18
            try clear c21
            try clear c24
            try clear c26
            try clear c28
            try clear c31
            try clear c31b0
            try clear c33
            try clear c34
            try clear c35
            try clear c36
            try clear c37
            try clear c38
            try clear c41
            try clear c41b0
            try clear c42
            try clear c42b0
            try clear c42b1
            try clear c52
            try clear p2
            obtain ⟨kq, x87_44, rfl, HA, HJ44, HO_7, HB⟩ := hcut
            have hl7_44 := (Kd.R_reads' HO_7.out).1
            rw [hl7_44] at HO_7
            (try simp only [hl7_44])
            cases kq with
            | zero => exact absurd HA.out (by simp [laws_FnExactQuiddityOfFractions.j2])
            | succ kj44 =>
             have H := HA.out
             clear HA
             simp only [laws_FnExactQuiddityOfFractions.j2] at H
             by_cases c57 : x87_44 = true
             ·subst c57
              have H1 : (some false) = some r := by rw [if_pos rfl] at H; exact H
              clear H
              have H := H1
              clear H1
              exact absurd (H.trans (congrArg some htrue.out)) (by decide)
             ·replace c57 := Bool.eq_false_iff.mpr c57
              subst c57
              have H1 : ((laws_heldIntS.f kj44 t253 1).bind fun t263 => (if t263 < 0 then (some false) else (if t263 = t252 then (some true) else (some false)))) = some r := by rw [if_neg (show ¬ (false = true) by decide)] at H; exact H
              clear H
              have H := H1
              clear H1
              replace H := Option.bind_eq_some_iff.mp H
              obtain ⟨t263, A580, H⟩ := H
              replace H : (if t263 < 0 then (some false) else (if t263 = t252 then (some true) else (some false))) = some r := H
              have A58 := Aside0.mk A580
              clear A580
              by_cases c59 : t263 < 0
              ·rw [if_pos c59] at H
               have c59b0 : decide (t263 < 0) = true := decide_eq_true c59
               clear c59
               exact absurd (H.trans (congrArg some htrue.out)) (by decide)
              ·rw [if_neg c59] at H
               have c59b0 : decide (t263 < 0) = false := decide_eq_false c59
               clear c59
               by_cases c60 : t263 = t252
               ·rw [if_pos c60] at H
                have c60b0 : (t263 == t252) = true := beq_iff_eq.mpr c60
                have c60b1 : (t263 != t252) = false := bne_eq_false_iff_eq.mpr c60
                clear c60
                obtain rfl := Option.some.inj H
                go_wp2_with (first | ((with_reducible refine gate_callee (f := 37) rfl ?_); refine goesL_ (some 90) rfl rfl Try.func37 (by kernel_rfl) rfl #[.slice Ao46 t253.length co46, .int .i64 1] rfl amp_ ?_; (with_reducible refine (laws_heldIntS.calls kj44 _ _ t253 1 t263 _ ?side1 ?side2 A58.out).mono ?_); (case side1 => repeat (first | exact (Kd.R_reads' HO_7.out).2.2 | (with_reducible refine Kd.C_alloc ?_ _) | (with_reducible refine Kd.C_drewN ?_ _) | (with_reducible refine Kd.C_drew ?_))); (case side2 => exact (Kd.R_reads' HO_7.out).2.1); rintro e w' ⟨rfl, ⟨nd, rfl⟩⟩; refine ⟨_, rfl, ?_⟩))
                go_ret
                exact ⟨by first | rfl | (simp [errW_none, errW_some] <;> rfl) | (simp [*, errW_none, errW_some] <;> rfl), by repeat (first | (with_reducible first | exact HB.out | apply below_alloc | apply pw_below_drewN | apply below_drew1) | exact HB.out)⟩
               ·rw [if_neg c60] at H
                have c60b0 : (t263 == t252) = false := beq_eq_false_iff_ne.mpr c60
                have c60b1 : (t263 != t252) = true := bne_iff_ne.mpr c60
                exact absurd (H.trans (congrArg some htrue.out)) (by decide)
          ·rw [if_neg c42] at H
           have c42b0 : (t254 == t252) = false := beq_eq_false_iff_ne.mpr c42
           have c42b1 : (t254 != t252) = true := bne_iff_ne.mpr c42
           exact absurd (H.trans (congrArg some htrue.out)) (by decide)
     ·replace c24 := Bool.eq_false_iff.mpr c24
      subst c24
      have H1 : (some false) = some r := by rw [if_neg (show ¬ (false = true) by decide)] at H; exact H
      clear H
      have H := H1
      clear H1
      exact absurd (H.trans (congrArg some htrue.out)) (by decide)

end Go.Proofs.Ytnjejmfnacpdoaa.PFnExactQuiddityOfFractions
