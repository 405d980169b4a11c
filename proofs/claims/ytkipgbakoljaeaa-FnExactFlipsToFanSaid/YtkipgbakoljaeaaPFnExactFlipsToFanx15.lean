-- WRITTEN BY A PROGRAM OF THIS WORK (wip/tools/ppatch.py) for this claim.
import Derived.Test.YtkipgbakoljaeaaPFnExactFlipsToFanx0
import Derived.Test.YtkipgbakoljaeaaPFnExactFlipsToFanx2
import Derived.Test.YtkipgbakoljaeaaPFnExactFlipsToFanx7
import Derived.Test.YtkipgbakoljaeaaPFnExactFlipsToFanx14
namespace Go.Proofs.Ytkipgbakoljaeaa.PFnExactFlipsToFan
open Go.RowKit Go.Proofs.YtkipgbakoljaeaaW.PrintWords Go.Proofs.YtkipgbakoljaeaaW.PrintLast Go.Proofs.YtkipgbakoljaeaaW.PrintMore
attribute [local go_sem] max2_int min2_int max_two min_two max_three min_three max_four min_four   -- for this text's walks alone
set_option linter.unusedVariables false
set_option linter.unusedSimpArgs false

/-! ### laws_FnExactFlipsToFan: function 13 -/
mutual
def laws_FnExactFlipsToFan.j0 : Nat → Int → List (S35) → Int → List (S36) → Bool → List (S36) → List (S36) → Bool → Bool → Option (Bool)
 | 0, _, _, _, _, _, _, _, _, _ => none
 | k + 1, x0, x1, x2, x8, x9, x10, x11, x12, x48 => if x48 = true then (some false) else ((laws_toDiagonalS.f k x1).bind fun t362 => ((laws_eqDiagonalS.f k x10 t362).bind fun t365 => (if t365 = true then ((laws_markDiagonalS.f k x10 1).bind fun bt366 => (if bt366.1 < 0 then (laws_FnExactFlipsToFan.j1 k x0 x1 x2 x8 x9 x11 true) else ((laws_eqDiagonalS.f k x11 x8).bind fun t368 => (if t368 = true then (laws_FnExactFlipsToFan.j1 k x0 x1 x2 x8 x9 x11 (x12 != x9)) else (laws_FnExactFlipsToFan.j1 k x0 x1 x2 x8 x9 x11 true))))) else (some false))))
def laws_FnExactFlipsToFan.j1 : Nat → Int → List (S35) → Int → List (S36) → Bool → List (S36) → Bool → Option (Bool)
 | 0, _, _, _, _, _, _, _ => none
 | k + 1, x0, x1, x2, x8, x9, x11, x69 => if x69 = true then (some false) else ((laws_markDiagonalS.f k x11 1).bind fun bt369 => ((laws_heldDiagonalS.f k bt369.2 1).bind fun t371 => (if t371 < 0 then (some false) else (if t371 = bt369.1 then ((laws_toDiagonalS.f k x1).bind fun t372 => ((impl_FlipsToFan.f k x0 t372 x2).bind fun bt375 => ((laws_eqDiagonalS.f k bt375.1 x8).bind fun t379 => (if t379 = true then (laws_FnExactFlipsToFan.j2 k bt369.2 bt369.1 (bt375.2 != x9)) else (laws_FnExactFlipsToFan.j2 k bt369.2 bt369.1 true))))) else (some false)))))
def laws_FnExactFlipsToFan.j2 : Nat → List (S36) → Int → Bool → Option (Bool)
 | 0, _, _, _ => none
 | k + 1, x11, x14, x97 => if x97 = true then (some false) else ((laws_heldDiagonalS.f k x11 1).bind fun t380 => (if t380 < 0 then (some false) else (if t380 = x14 then (some true) else (some false))))
end
def laws_FnExactFlipsToFan.f (k : Nat) (a0 : Int) (l1 : List (S35)) (a2 : Int) : Option (Bool) := (laws_szDiagonalS.f l1 1048576).bind fun t346 => (if t346 < 0 then (some true) else ((laws_toDiagonalS.f k l1).bind fun t347 => ((spec_FlipsToFan.f k a0 t347 a2).bind fun bt350 => ((laws_toDiagonalS.f k l1).bind fun t354 => ((impl_FlipsToFan.f k a0 t354 a2).bind fun bt357 => ((laws_eqDiagonalS.f k bt357.1 bt350.1).bind fun t361 => (if t361 = true then (laws_FnExactFlipsToFan.j0 k a0 l1 a2 bt350.1 bt350.2 t354 bt357.1 bt357.2 (bt357.2 != bt350.2)) else (laws_FnExactFlipsToFan.j0 k a0 l1 a2 bt350.1 bt350.2 t354 bt357.1 bt357.2 true))))))))
theorem laws_FnExactFlipsToFan.mono_l : ∀ k, (∀ y0 y1 y2 y3 y4 y5 y6 y7 y8, LeO (laws_FnExactFlipsToFan.j0 k y0 y1 y2 y3 y4 y5 y6 y7 y8) (laws_FnExactFlipsToFan.j0 (k + 1) y0 y1 y2 y3 y4 y5 y6 y7 y8)) ∧ (∀ y0 y1 y2 y3 y4 y5 y6, LeO (laws_FnExactFlipsToFan.j1 k y0 y1 y2 y3 y4 y5 y6) (laws_FnExactFlipsToFan.j1 (k + 1) y0 y1 y2 y3 y4 y5 y6)) ∧ (∀ y0 y1 y2, LeO (laws_FnExactFlipsToFan.j2 k y0 y1 y2) (laws_FnExactFlipsToFan.j2 (k + 1) y0 y1 y2))
 | 0 => ⟨fun _ _ _ _ _ _ _ _ _ r h => by simp [laws_FnExactFlipsToFan.j0] at h, fun _ _ _ _ _ _ _ r h => by simp [laws_FnExactFlipsToFan.j1] at h, fun _ _ _ r h => by simp [laws_FnExactFlipsToFan.j2] at h⟩
 | k + 1 => by
  obtain ⟨ih0, ih1, ih2⟩ := laws_FnExactFlipsToFan.mono_l k
  refine ⟨?_, ?_, ?_⟩
  ·intro y0 y1 y2 y3 y4 y5 y6 y7 y8
   unfold laws_FnExactFlipsToFan.j0
   repeat' first
   | (with_reducible exact ih0 _ _ _ _ _ _ _ _ _)
   | (with_reducible exact ih1 _ _ _ _ _ _ _)
   | (with_reducible exact ih2 _ _ _)
   | (with_reducible exact impl_FlipsToFan.mono _ _ _ _)
   | (with_reducible exact laws_eqDiagonalS.mono _ _ _)
   | (with_reducible exact laws_heldDiagonalS.mono _ _ _)
   | (with_reducible exact laws_markDiagonalS.mono _ _ _)
   | (with_reducible exact laws_toDiagonalS.mono _ _)
   | (with_reducible exact spec_FlipsToFan.mono _ _ _ _)
   | (with_reducible exact LeO.refl _)
   | (with_reducible exact LeO.none _)
   | (with_reducible refine LeO.ite ?_ ?_)
   | (with_reducible refine LeO.bind ?_ (fun _ => ?_))
   | exact ih0 _ _ _ _ _ _ _ _ _
   | exact ih1 _ _ _ _ _ _ _
   | exact ih2 _ _ _
   | exact impl_FlipsToFan.mono _ _ _ _
   | exact laws_eqDiagonalS.mono _ _ _
   | exact laws_heldDiagonalS.mono _ _ _
   | exact laws_markDiagonalS.mono _ _ _
   | exact laws_toDiagonalS.mono _ _
   | exact spec_FlipsToFan.mono _ _ _ _
   | exact LeO.none _
   | refine LeO.ite ?_ ?_
   | refine LeO.bind ?_ (fun _ => ?_)
  ·intro y0 y1 y2 y3 y4 y5 y6
   unfold laws_FnExactFlipsToFan.j1
   repeat' first
   | (with_reducible exact ih0 _ _ _ _ _ _ _ _ _)
   | (with_reducible exact ih1 _ _ _ _ _ _ _)
   | (with_reducible exact ih2 _ _ _)
   | (with_reducible exact impl_FlipsToFan.mono _ _ _ _)
   | (with_reducible exact laws_eqDiagonalS.mono _ _ _)
   | (with_reducible exact laws_heldDiagonalS.mono _ _ _)
   | (with_reducible exact laws_markDiagonalS.mono _ _ _)
   | (with_reducible exact laws_toDiagonalS.mono _ _)
   | (with_reducible exact spec_FlipsToFan.mono _ _ _ _)
   | (with_reducible exact LeO.refl _)
   | (with_reducible exact LeO.none _)
   | (with_reducible refine LeO.ite ?_ ?_)
   | (with_reducible refine LeO.bind ?_ (fun _ => ?_))
   | exact ih0 _ _ _ _ _ _ _ _ _
   | exact ih1 _ _ _ _ _ _ _
   | exact ih2 _ _ _
   | exact impl_FlipsToFan.mono _ _ _ _
   | exact laws_eqDiagonalS.mono _ _ _
   | exact laws_heldDiagonalS.mono _ _ _
   | exact laws_markDiagonalS.mono _ _ _
   | exact laws_toDiagonalS.mono _ _
   | exact spec_FlipsToFan.mono _ _ _ _
   | exact LeO.none _
   | refine LeO.ite ?_ ?_
   | refine LeO.bind ?_ (fun _ => ?_)
  ·intro y0 y1 y2
   unfold laws_FnExactFlipsToFan.j2
   repeat' first
   | (with_reducible exact ih0 _ _ _ _ _ _ _ _ _)
   | (with_reducible exact ih1 _ _ _ _ _ _ _)
   | (with_reducible exact ih2 _ _ _)
   | (with_reducible exact impl_FlipsToFan.mono _ _ _ _)
   | (with_reducible exact laws_eqDiagonalS.mono _ _ _)
   | (with_reducible exact laws_heldDiagonalS.mono _ _ _)
   | (with_reducible exact laws_markDiagonalS.mono _ _ _)
   | (with_reducible exact laws_toDiagonalS.mono _ _)
   | (with_reducible exact spec_FlipsToFan.mono _ _ _ _)
   | (with_reducible exact LeO.refl _)
   | (with_reducible exact LeO.none _)
   | (with_reducible refine LeO.ite ?_ ?_)
   | (with_reducible refine LeO.bind ?_ (fun _ => ?_))
   | exact ih0 _ _ _ _ _ _ _ _ _
   | exact ih1 _ _ _ _ _ _ _
   | exact ih2 _ _ _
   | exact impl_FlipsToFan.mono _ _ _ _
   | exact laws_eqDiagonalS.mono _ _ _
   | exact laws_heldDiagonalS.mono _ _ _
   | exact laws_markDiagonalS.mono _ _ _
   | exact laws_toDiagonalS.mono _ _
   | exact spec_FlipsToFan.mono _ _ _ _
   | exact LeO.none _
   | refine LeO.ite ?_ ?_
   | refine LeO.bind ?_ (fun _ => ?_)
theorem laws_FnExactFlipsToFan.mono : ∀ a0 a1 a2 k, LeO (laws_FnExactFlipsToFan.f k a0 a1 a2) (laws_FnExactFlipsToFan.f (k + 1) a0 a1 a2) := by
 intro a0 a1 a2 k
 obtain ⟨ih0, ih1, ih2⟩ := laws_FnExactFlipsToFan.mono_l k
 unfold laws_FnExactFlipsToFan.f
 repeat' first
   | (with_reducible exact ih0 _ _ _ _ _ _ _ _ _)
   | (with_reducible exact ih1 _ _ _ _ _ _ _)
   | (with_reducible exact ih2 _ _ _)
   | (with_reducible exact impl_FlipsToFan.mono _ _ _ _)
   | (with_reducible exact laws_eqDiagonalS.mono _ _ _)
   | (with_reducible exact laws_heldDiagonalS.mono _ _ _)
   | (with_reducible exact laws_markDiagonalS.mono _ _ _)
   | (with_reducible exact laws_toDiagonalS.mono _ _)
   | (with_reducible exact spec_FlipsToFan.mono _ _ _ _)
   | (with_reducible exact LeO.refl _)
   | (with_reducible exact LeO.none _)
   | (with_reducible refine LeO.ite ?_ ?_)
   | (with_reducible refine LeO.bind ?_ (fun _ => ?_))
   | exact ih0 _ _ _ _ _ _ _ _ _
   | exact ih1 _ _ _ _ _ _ _
   | exact ih2 _ _ _
   | exact impl_FlipsToFan.mono _ _ _ _
   | exact laws_eqDiagonalS.mono _ _ _
   | exact laws_heldDiagonalS.mono _ _ _
   | exact laws_markDiagonalS.mono _ _ _
   | exact laws_toDiagonalS.mono _ _
   | exact spec_FlipsToFan.mono _ _ _ _
   | exact LeO.none _
   | refine LeO.ite ?_ ?_
   | refine LeO.bind ?_ (fun _ => ?_)
set_option maxHeartbeats 8000000 in
set_option maxRecDepth 100000 in
theorem laws_FnExactFlipsToFan.calls (k : Nat) (a0 : Int) (A1 : Option Addr) (c1 : Nat) (l1 : List (S35)) (a2 : Int) (r : Bool) (w : World) (hr1 : Kd.C k35 w A1 l1.length l1) (hc1 : l1.length ≤ c1) (h : laws_FnExactFlipsToFan.f k a0 l1 a2 = some r) (htrue : Aside0 (r = true) := by exact ⟨rfl⟩) :
  Calls Try.prog 13 #[.int .i64 a0, .slice A1 l1.length c1, .int .i64 a2] w fun e w' => e = .returned (.bool r) ∧ Below w.heap.size w w' := by
 have HR1 := Aside0.mk hr1
 have HC1 := Aside0.mk hc1
 clear hr1 hc1
 have HB := Aside0.mk (Below.refl w.heap.size w)
 have H : ((laws_szDiagonalS.f l1 1048576).bind fun t346 => (if t346 < 0 then (some true) else ((laws_toDiagonalS.f k l1).bind fun t347 => ((spec_FlipsToFan.f k a0 t347 a2).bind fun bt350 => ((laws_toDiagonalS.f k l1).bind fun t354 => ((impl_FlipsToFan.f k a0 t354 a2).bind fun bt357 => ((laws_eqDiagonalS.f k bt357.1 bt350.1).bind fun t361 => (if t361 = true then (laws_FnExactFlipsToFan.j0 k a0 l1 a2 bt350.1 bt350.2 t354 bt357.1 bt357.2 (bt357.2 != bt350.2)) else (laws_FnExactFlipsToFan.j0 k a0 l1 a2 bt350.1 bt350.2 t354 bt357.1 bt357.2 true))))))))) = some r := h
 clear h
 replace H := Option.bind_eq_some_iff.mp H
 obtain ⟨t346, A40, H⟩ := H
 replace H : (if t346 < 0 then (some true) else ((laws_toDiagonalS.f k l1).bind fun t347 => ((spec_FlipsToFan.f k a0 t347 a2).bind fun bt350 => ((laws_toDiagonalS.f k l1).bind fun t354 => ((impl_FlipsToFan.f k a0 t354 a2).bind fun bt357 => ((laws_eqDiagonalS.f k bt357.1 bt350.1).bind fun t361 => (if t361 = true then (laws_FnExactFlipsToFan.j0 k a0 l1 a2 bt350.1 bt350.2 t354 bt357.1 bt357.2 (bt357.2 != bt350.2)) else (laws_FnExactFlipsToFan.j0 k a0 l1 a2 bt350.1 bt350.2 t354 bt357.1 bt357.2 true)))))))) = some r := H
 have A4 := Aside0.mk A40
 clear A40
 by_cases c5 : t346 < 0
 ·rw [if_pos c5] at H
  have c5b0 : decide (t346 < 0) = true := decide_eq_true c5
  clear c5
  obtain rfl := Option.some.inj H
  go_enter Try.func13, Try.ntmps13
  go_wp2_with (first | ((with_reducible refine gate_callee (f := 20) rfl ?_); refine goesL_ (some 20) rfl rfl Try.func20 (by kernel_rfl) rfl #[.slice A1 l1.length c1, .int .i64 1048576] rfl amp_ ?_; (with_reducible refine (laws_szDiagonalS.calls _ _ l1 1048576 t346 _ ?side1 ?side2 A4.out).mono ?_); (case side1 => repeat (first | exact HR1.out | (with_reducible refine Kd.C_alloc ?_ _) | (with_reducible refine Kd.C_drewN ?_ _) | (with_reducible refine Kd.C_drew ?_))); (case side2 => exact HC1.out); rintro e w' ⟨rfl, ⟨nd, rfl⟩⟩; refine ⟨_, rfl, ?_⟩))
  go_ret
  exact ⟨by first | rfl | (simp [errW_none, errW_some] <;> rfl) | (simp [*, errW_none, errW_some] <;> rfl), by repeat (first | (with_reducible first | exact HB.out | apply below_alloc | apply pw_below_drewN | apply below_drew1) | exact HB.out)⟩
 ·rw [if_neg c5] at H
  have c5b0 : decide (t346 < 0) = false := decide_eq_false c5
  clear c5
  replace H := Option.bind_eq_some_iff.mp H
  obtain ⟨t347, A60, H⟩ := H
  replace H : ((spec_FlipsToFan.f k a0 t347 a2).bind fun bt350 => ((laws_toDiagonalS.f k l1).bind fun t354 => ((impl_FlipsToFan.f k a0 t354 a2).bind fun bt357 => ((laws_eqDiagonalS.f k bt357.1 bt350.1).bind fun t361 => (if t361 = true then (laws_FnExactFlipsToFan.j0 k a0 l1 a2 bt350.1 bt350.2 t354 bt357.1 bt357.2 (bt357.2 != bt350.2)) else (laws_FnExactFlipsToFan.j0 k a0 l1 a2 bt350.1 bt350.2 t354 bt357.1 bt357.2 true)))))) = some r := H
  have A6 := Aside0.mk A60
  clear A60
  replace H := Option.bind_eq_some_iff.mp H
  obtain ⟨⟨t350, t353⟩, A70, H⟩ := H
  replace H : ((laws_toDiagonalS.f k l1).bind fun t354 => ((impl_FlipsToFan.f k a0 t354 a2).bind fun bt357 => ((laws_eqDiagonalS.f k bt357.1 t350).bind fun t361 => (if t361 = true then (laws_FnExactFlipsToFan.j0 k a0 l1 a2 t350 t353 t354 bt357.1 bt357.2 (bt357.2 != t353)) else (laws_FnExactFlipsToFan.j0 k a0 l1 a2 t350 t353 t354 bt357.1 bt357.2 true))))) = some r := H
  have A7 := Aside0.mk A70
  clear A70
  replace H := Option.bind_eq_some_iff.mp H
  obtain ⟨t354, A80, H⟩ := H
  replace H : ((impl_FlipsToFan.f k a0 t354 a2).bind fun bt357 => ((laws_eqDiagonalS.f k bt357.1 t350).bind fun t361 => (if t361 = true then (laws_FnExactFlipsToFan.j0 k a0 l1 a2 t350 t353 t354 bt357.1 bt357.2 (bt357.2 != t353)) else (laws_FnExactFlipsToFan.j0 k a0 l1 a2 t350 t353 t354 bt357.1 bt357.2 true)))) = some r := H
  have A8 := Aside0.mk A80
  clear A80
  replace H := Option.bind_eq_some_iff.mp H
  obtain ⟨⟨t357, t358⟩, A90, H⟩ := H
  replace H : ((laws_eqDiagonalS.f k t357 t350).bind fun t361 => (if t361 = true then (laws_FnExactFlipsToFan.j0 k a0 l1 a2 t350 t353 t354 t357 t358 (t358 != t353)) else (laws_FnExactFlipsToFan.j0 k a0 l1 a2 t350 t353 t354 t357 t358 true))) = some r := H
  have A9 := Aside0.mk A90
  clear A90
  have HC10 := Aside0.mk H
  clear H
  go_enter Try.func13, Try.ntmps13
  go_upto_region 8 with (first | ((with_reducible refine gate_callee (f := 20) rfl ?_); refine goesL_ (some 20) rfl rfl Try.func20 (by kernel_rfl) rfl #[.slice A1 l1.length c1, .int .i64 1048576] rfl amp_ ?_; (with_reducible refine (laws_szDiagonalS.calls _ _ l1 1048576 t346 _ ?side1 ?side2 A4.out).mono ?_); (case side1 => repeat (first | exact HR1.out | (with_reducible refine Kd.C_alloc ?_ _) | (with_reducible refine Kd.C_drewN ?_ _) | (with_reducible refine Kd.C_drew ?_))); (case side2 => exact HC1.out); rintro e w' ⟨rfl, ⟨nd, rfl⟩⟩; refine ⟨_, rfl, ?_⟩) | ((with_reducible refine gate_callee (f := 22) rfl ?_); refine goesL_ (some 26) rfl rfl Try.func22 (by kernel_rfl) rfl #[.slice A1 l1.length c1] rfl amp_ ?_; (with_reducible refine (laws_toDiagonalS.calls k _ _ l1 t347 _ ?side1 ?side2 A6.out).mono ?_); (case side1 => repeat (first | exact HR1.out | (with_reducible refine Kd.C_alloc ?_ _) | (with_reducible refine Kd.C_drewN ?_ _) | (with_reducible refine Kd.C_drew ?_))); (case side2 => exact HC1.out); rintro e w11 ⟨v348, rfl, ho0, hb⟩; refine ⟨_, rfl, ?_⟩; have n0_ := Aside0.mk (Kd.R_lower ho0 (below_size blw_)); have n1_ := Aside0.mk (below_step blw_ hb); clear HB; have HO349 := n0_; have HB := n1_; clear n0_ n1_; (try clear hb); (try clear hb2); (try clear hk); (try clear hi); (try clear ho0); obtain ⟨Ao12, co12, eo12⟩ := Kd.R_slice HO349.out; subst eo12) | ((with_reducible refine gate_callee (f := 48) rfl ?_); refine goesL_ (some 28) rfl rfl Try.func48 (by kernel_rfl) rfl #[.int .i64 a0, .slice Ao12 t347.length co12, .int .i64 a2] rfl amp_ ?_; (with_reducible refine (spec_FlipsToFan.calls k a0 (fun k_ => some k_ = (.slice Ao12 t347.length co12 : Value).ownBlock) _ _ t347 a2 t350 t353 _ ?side1 A7.out).mono ?_); (case side1 => exact Kd.R_V (Kd.R_tight rfl (HO349.out))); rintro e w13 ⟨v351, rfl, ho0, hb⟩; refine ⟨_, rfl, ?_⟩; have n0_ := Aside0.mk (Kd.R_elder' (ra_ HO349.out) (Kd.R_base ho0) hb); have n1_ := Aside0.mk (Kd.R_lower (Kd.R_new' (Kd.R_mono (ok' := fun k_ => True) ho0 (fun _ hk_ => trivial)) (Kd.R_lt (ra_ HO349.out))) (below_size blw_)); have n2_ := Aside0.mk (below_step blw_ hb); clear HO349; clear HB; have HO349 := n0_; have HO352 := n1_; have HB := n2_; clear n0_ n1_ n2_; (try clear hb); (try clear hb2); (try clear hk); (try clear hi); (try clear ho0)) | ((with_reducible refine gate_callee (f := 22) rfl ?_); refine goesL_ (some 32) rfl rfl Try.func22 (by kernel_rfl) rfl #[.slice A1 l1.length c1] rfl amp_ ?_; (with_reducible refine (laws_toDiagonalS.calls k _ _ l1 t354 _ ?side1 ?side2 A8.out).mono ?_); (case side1 => repeat (first | exact (Kd.C_below HR1.out HB.out) | (with_reducible refine Kd.C_alloc ?_ _) | (with_reducible refine Kd.C_drewN ?_ _) | (with_reducible refine Kd.C_drew ?_))); (case side2 => exact HC1.out); rintro e w14 ⟨v355, rfl, ho0, hb⟩; refine ⟨_, rfl, ?_⟩; have n0_ := Aside0.mk (Kd.R_elder' (ra_ HO349.out) (Kd.R_base ho0) hb); have n1_ := Aside0.mk (Kd.R_elder' (ra_ HO352.out) (Kd.R_base ho0) hb); have n2_ := Aside0.mk (Kd.R_lower (Kd.R_new' (Kd.R_new' ho0 (Kd.R_lt (ra_ HO349.out))) (Kd.R_lt (ra_ HO352.out))) (below_size blw_)); have n3_ := Aside0.mk (below_step blw_ hb); clear HO349; clear HO352; clear HB; have HO349 := n0_; have HO352 := n1_; have HO356 := n2_; have HB := n3_; clear n0_ n1_ n2_ n3_; (try clear hb); (try clear hb2); (try clear hk); (try clear hi); (try clear ho0); obtain ⟨Ao15, co15, eo15⟩ := Kd.R_slice HO356.out; subst eo15) | ((with_reducible refine gate_callee (f := 49) rfl ?_); refine goesL_ (some 37) rfl rfl Try.func49 (by kernel_rfl) rfl #[.int .i64 a0, .slice Ao15 t354.length co15, .int .i64 a2] rfl amp_ ?_; (with_reducible refine (impl_FlipsToFan.calls k a0 _ _ t354 a2 t357 t358 _ ?side1 ?side2 A9.out).mono ?_); (case side1 => repeat (first | exact (Kd.R_reads' HO356.out).2.2 | (with_reducible refine Kd.C_alloc ?_ _) | (with_reducible refine Kd.C_drewN ?_ _) | (with_reducible refine Kd.C_drew ?_))); (case side2 => exact (Kd.R_reads' HO356.out).2.1); rintro e w16 ⟨v359, rfl, ho0, hb⟩; refine ⟨_, rfl, ?_⟩; have n0_ := Aside0.mk (Kd.R_elder' (ra_ HO349.out) (Kd.R_base ho0) hb); have n1_ := Aside0.mk (Kd.R_elder' (ra_ HO352.out) (Kd.R_base ho0) hb); have n2_ := Aside0.mk (Kd.R_elder' (ra_ HO356.out) (Kd.R_base ho0) hb); have n3_ := Aside0.mk (Kd.R_lower (Kd.R_new' (Kd.R_new' (Kd.R_new' ho0 (Kd.R_lt (ra_ HO349.out))) (Kd.R_lt (ra_ HO352.out))) (Kd.R_lt (ra_ HO356.out))) (below_size blw_)); have n4_ := Aside0.mk (below_step blw_ hb); clear HO349; clear HO352; clear HO356; clear HB; have HO349 := n0_; have HO352 := n1_; have HO356 := n2_; have HO360 := n3_; have HB := n4_; clear n0_ n1_ n2_ n3_ n4_; (try clear hb); (try clear hb2); (try clear hk); (try clear hi); (try clear ho0)))
  (try simp only [Act.put, List.setIfInBounds_toArray, List.set_cons_zero, List.set_cons_succ])
  go_cut [48] (fun v48 wc => ∃ (kq : Nat) (x48_9 : Bool), v48 = .bool x48_9 ∧ Aside0 (laws_FnExactFlipsToFan.j0 kq a0 l1 a2 t350 t353 t354 t357 t358 x48_9 = some r) ∧ Aside0 (kq ≤ k) ∧ Aside0 (Kd.R k36 36 wc w.heap.size (fun k_ => some k_ ≠ ((.slice Ao15 t354.length co15) : Value).ownBlock ∧ some k_ ≠ (v359 : Value).ownBlock) v351 t350) ∧ Aside0 (Kd.R k36 36 wc w.heap.size (fun k_ => some k_ ≠ (v351 : Value).ownBlock ∧ some k_ ≠ (v359 : Value).ownBlock) (.slice Ao15 t354.length co15) t354) ∧ Aside0 (Kd.R k36 36 wc w.heap.size (fun k_ => some k_ ≠ (v351 : Value).ownBlock ∧ some k_ ≠ ((.slice Ao15 t354.length co15) : Value).ownBlock) v359 t357) ∧ Aside0 (Below w.heap.size w wc))
  case first =>
   have H := HC10.out
   clear HC10
   replace H := Option.bind_eq_some_iff.mp H
   obtain ⟨t361, A170, H⟩ := H
   replace H : (if t361 = true then (laws_FnExactFlipsToFan.j0 k a0 l1 a2 t350 t353 t354 t357 t358 (t358 != t353)) else (laws_FnExactFlipsToFan.j0 k a0 l1 a2 t350 t353 t354 t357 t358 true)) = some r := H
   have A17 := Aside0.mk A170
   clear A170
   by_cases c18 : t361 = true
   ·subst c18
    have H1 : (laws_FnExactFlipsToFan.j0 k a0 l1 a2 t350 t353 t354 t357 t358 (t358 != t353)) = some r := by rw [if_pos rfl] at H; exact H
    clear H
    have H := H1
    clear H1
    have H' := Aside0.mk H
    clear H
    obtain ⟨Ao19, co19, eo19⟩ := Kd.R_slice HO360.out
    subst eo19
    obtain ⟨Ao20, co20, eo20⟩ := Kd.R_slice HO352.out
    subst eo20
    go_wp2_with (first | ((with_reducible refine gate_callee (f := 17) rfl ?_); refine goesL_ (some 42) rfl rfl Try.func17 (by kernel_rfl) rfl #[.slice Ao19 t357.length co19, .slice Ao20 t350.length co20] rfl amp_ ?_; (with_reducible refine (laws_eqDiagonalS.calls k _ _ t357 _ _ t350 true _ ?side1 ?side2 ?side3 ?side4 A17.out).mono ?_); (case side1 => repeat (first | exact (Kd.R_reads' HO360.out).2.2 | (with_reducible refine Kd.C_alloc ?_ _) | (with_reducible refine Kd.C_drewN ?_ _) | (with_reducible refine Kd.C_drew ?_))); (case side2 => exact (Kd.R_reads' HO360.out).2.1); (case side3 => repeat (first | exact (Kd.R_reads' HO352.out).2.2 | (with_reducible refine Kd.C_alloc ?_ _) | (with_reducible refine Kd.C_drewN ?_ _) | (with_reducible refine Kd.C_drew ?_))); (case side4 => exact (Kd.R_reads' HO352.out).2.1); rintro e w21 ⟨rfl, hb⟩; refine ⟨_, rfl, ?_⟩; have n0_ := Aside0.mk (Kd.R_below (ra_ HO349.out) hb); have n1_ := Aside0.mk (Kd.R_below (ra_ HO352.out) hb); have n2_ := Aside0.mk (Kd.R_below (ra_ HO356.out) hb); have n3_ := Aside0.mk (Kd.R_below (ra_ HO360.out) hb); have n4_ := Aside0.mk (below_step blw_ hb); clear HO349; clear HO352; clear HO356; clear HO360; clear HB; have HO349 := n0_; have HO352 := n1_; have HO356 := n2_; have HO360 := n3_; have HB := n4_; clear n0_ n1_ n2_ n3_ n4_; (try clear hb); (try clear hb2); (try clear hk); (try clear hi)))
    go_meet
    case rel => exact ⟨_, ((t358 != t353)), (by first | rfl | (simp; done) | (simp [*]; done)), H', ⟨by first | omega | exact Nat.le_refl _⟩, ⟨by (with_reducible repeat (first | apply Kd.R_alloc | apply Kd.R_drewN | apply Kd.R_drew)); exact Kd.R_mono HO352.out (fun _ hk => ⟨hk.1.2, hk.2⟩)⟩, ⟨by (with_reducible repeat (first | apply Kd.R_alloc | apply Kd.R_drewN | apply Kd.R_drew)); exact Kd.R_mono HO356.out (fun _ hk => ⟨hk.1.2, hk.2⟩)⟩, ⟨by (with_reducible repeat (first | apply Kd.R_alloc | apply Kd.R_drewN | apply Kd.R_drew)); exact Kd.R_mono HO360.out (fun _ hk => ⟨hk.1.2, hk.2⟩)⟩, ⟨by repeat (first | (with_reducible first | exact HB.out | apply below_alloc | apply pw_below_drewN | apply below_drew1) | exact HB.out)⟩⟩
   ·replace c18 := Bool.eq_false_iff.mpr c18
    subst c18
    have H1 : (laws_FnExactFlipsToFan.j0 k a0 l1 a2 t350 t353 t354 t357 t358 true) = some r := by rw [if_neg (show ¬ (false = true) by decide)] at H; exact H
    clear H
    have H := H1
    clear H1
    have H' := Aside0.mk H
    clear H
    obtain ⟨Ao22, co22, eo22⟩ := Kd.R_slice HO360.out
    subst eo22
    obtain ⟨Ao23, co23, eo23⟩ := Kd.R_slice HO352.out
    subst eo23
    go_wp2_with (first | ((with_reducible refine gate_callee (f := 17) rfl ?_); refine goesL_ (some 42) rfl rfl Try.func17 (by kernel_rfl) rfl #[.slice Ao22 t357.length co22, .slice Ao23 t350.length co23] rfl amp_ ?_; (with_reducible refine (laws_eqDiagonalS.calls k _ _ t357 _ _ t350 false _ ?side1 ?side2 ?side3 ?side4 A17.out).mono ?_); (case side1 => repeat (first | exact (Kd.R_reads' HO360.out).2.2 | (with_reducible refine Kd.C_alloc ?_ _) | (with_reducible refine Kd.C_drewN ?_ _) | (with_reducible refine Kd.C_drew ?_))); (case side2 => exact (Kd.R_reads' HO360.out).2.1); (case side3 => repeat (first | exact (Kd.R_reads' HO352.out).2.2 | (with_reducible refine Kd.C_alloc ?_ _) | (with_reducible refine Kd.C_drewN ?_ _) | (with_reducible refine Kd.C_drew ?_))); (case side4 => exact (Kd.R_reads' HO352.out).2.1); rintro e w24 ⟨rfl, hb⟩; refine ⟨_, rfl, ?_⟩; have n0_ := Aside0.mk (Kd.R_below (ra_ HO349.out) hb); have n1_ := Aside0.mk (Kd.R_below (ra_ HO352.out) hb); have n2_ := Aside0.mk (Kd.R_below (ra_ HO356.out) hb); have n3_ := Aside0.mk (Kd.R_below (ra_ HO360.out) hb); have n4_ := Aside0.mk (below_step blw_ hb); clear HO349; clear HO352; clear HO356; clear HO360; clear HB; have HO349 := n0_; have HO352 := n1_; have HO356 := n2_; have HO360 := n3_; have HB := n4_; clear n0_ n1_ n2_ n3_ n4_; (try clear hb); (try clear hb2); (try clear hk); (try clear hi)))
    go_meet
    case rel => exact ⟨_, (true), (by first | rfl | (simp; done) | (simp [*]; done)), H', ⟨by first | omega | exact Nat.le_refl _⟩, ⟨by (with_reducible repeat (first | apply Kd.R_alloc | apply Kd.R_drewN | apply Kd.R_drew)); exact Kd.R_mono HO352.out (fun _ hk => ⟨hk.1.2, hk.2⟩)⟩, ⟨by (with_reducible repeat (first | apply Kd.R_alloc | apply Kd.R_drewN | apply Kd.R_drew)); exact Kd.R_mono HO356.out (fun _ hk => ⟨hk.1.2, hk.2⟩)⟩, ⟨by (with_reducible repeat (first | apply Kd.R_alloc | apply Kd.R_drewN | apply Kd.R_drew)); exact Kd.R_mono HO360.out (fun _ hk => ⟨hk.1.2, hk.2⟩)⟩, ⟨by repeat (first | (with_reducible first | exact HB.out | apply below_alloc | apply pw_below_drewN | apply below_drew1) | exact HB.out)⟩⟩
  case rest =>
   clear HC10
   try clear c1
   try clear c2
   try clear p2
   try clear c4
   try clear c5
   try clear c5b0
   try clear c13
   try clear c17
   try clear c18
   try clear c20
   try clear c22
   obtain ⟨kq, x48_9, rfl, HA, HJ9, HO_8, HO_10, HO_11, HB⟩ := hcut
   cases kq with
   | zero => exact absurd HA.out (by simp [laws_FnExactFlipsToFan.j0])
   | succ kj9 =>
    have H := HA.out
    clear HA
    simp only [laws_FnExactFlipsToFan.j0] at H
    by_cases c25 : x48_9 = true
    ·subst c25
     have H1 : (some false) = some r := by rw [if_pos rfl] at H; exact H
     clear H
     have H := H1
     clear H1
     exact absurd (H.trans (congrArg some htrue.out)) (by decide)
    ·replace c25 := Bool.eq_false_iff.mpr c25
     subst c25
     have H1 : ((laws_toDiagonalS.f kj9 l1).bind fun t362 => ((laws_eqDiagonalS.f kj9 t354 t362).bind fun t365 => (if t365 = true then ((laws_markDiagonalS.f kj9 t354 1).bind fun bt366 => (if bt366.1 < 0 then (laws_FnExactFlipsToFan.j1 kj9 a0 l1 a2 t350 t353 t357 true) else ((laws_eqDiagonalS.f kj9 t357 t350).bind fun t368 => (if t368 = true then (laws_FnExactFlipsToFan.j1 kj9 a0 l1 a2 t350 t353 t357 (t358 != t353)) else (laws_FnExactFlipsToFan.j1 kj9 a0 l1 a2 t350 t353 t357 true))))) else (some false)))) = some r := by rw [if_neg (show ¬ (false = true) by decide)] at H; exact H
     clear H
     have H := H1
     clear H1
     replace H := Option.bind_eq_some_iff.mp H
     obtain ⟨t362, A260, H⟩ := H
     replace H : ((laws_eqDiagonalS.f kj9 t354 t362).bind fun t365 => (if t365 = true then ((laws_markDiagonalS.f kj9 t354 1).bind fun bt366 => (if bt366.1 < 0 then (laws_FnExactFlipsToFan.j1 kj9 a0 l1 a2 t350 t353 t357 true) else ((laws_eqDiagonalS.f kj9 t357 t350).bind fun t368 => (if t368 = true then (laws_FnExactFlipsToFan.j1 kj9 a0 l1 a2 t350 t353 t357 (t358 != t353)) else (laws_FnExactFlipsToFan.j1 kj9 a0 l1 a2 t350 t353 t357 true))))) else (some false))) = some r := H
     have A26 := Aside0.mk A260
     clear A260
     replace H := Option.bind_eq_some_iff.mp H
     obtain ⟨t365, A270, H⟩ := H
     replace H : (if t365 = true then ((laws_markDiagonalS.f kj9 t354 1).bind fun bt366 => (if bt366.1 < 0 then (laws_FnExactFlipsToFan.j1 kj9 a0 l1 a2 t350 t353 t357 true) else ((laws_eqDiagonalS.f kj9 t357 t350).bind fun t368 => (if t368 = true then (laws_FnExactFlipsToFan.j1 kj9 a0 l1 a2 t350 t353 t357 (t358 != t353)) else (laws_FnExactFlipsToFan.j1 kj9 a0 l1 a2 t350 t353 t357 true))))) else (some false)) = some r := H
     have A27 := Aside0.mk A270
     clear A270
     by_cases c28 : t365 = true
     ·subst c28
      have H1 : ((laws_markDiagonalS.f kj9 t354 1).bind fun bt366 => (if bt366.1 < 0 then (laws_FnExactFlipsToFan.j1 kj9 a0 l1 a2 t350 t353 t357 true) else ((laws_eqDiagonalS.f kj9 t357 t350).bind fun t368 => (if t368 = true then (laws_FnExactFlipsToFan.j1 kj9 a0 l1 a2 t350 t353 t357 (t358 != t353)) else (laws_FnExactFlipsToFan.j1 kj9 a0 l1 a2 t350 t353 t357 true))))) = some r := by rw [if_pos rfl] at H; exact H
      clear H
      have H := H1
      clear H1
      replace H := Option.bind_eq_some_iff.mp H
      obtain ⟨⟨t366, t367⟩, A290, H⟩ := H
      replace H : (if t366 < 0 then (laws_FnExactFlipsToFan.j1 kj9 a0 l1 a2 t350 t353 t357 true) else ((laws_eqDiagonalS.f kj9 t357 t350).bind fun t368 => (if t368 = true then (laws_FnExactFlipsToFan.j1 kj9 a0 l1 a2 t350 t353 t357 (t358 != t353)) else (laws_FnExactFlipsToFan.j1 kj9 a0 l1 a2 t350 t353 t357 true)))) = some r := H
      have A29 := Aside0.mk A290
      clear A290
      have HC30 := Aside0.mk H
      clear H
      go_upto_region 14 with (first | ((with_reducible refine gate_callee (f := 22) rfl ?_); refine goesL_ (some 51) rfl rfl Try.func22 (by kernel_rfl) rfl #[.slice A1 l1.length c1] rfl amp_ ?_; (with_reducible refine (laws_toDiagonalS.calls kj9 _ _ l1 t362 _ ?side1 ?side2 A26.out).mono ?_); (case side1 => repeat (first | exact (Kd.C_below HR1.out HB.out) | (with_reducible refine Kd.C_alloc ?_ _) | (with_reducible refine Kd.C_drewN ?_ _) | (with_reducible refine Kd.C_drew ?_))); (case side2 => exact HC1.out); rintro e w31 ⟨v363, rfl, ho0, hb⟩; refine ⟨_, rfl, ?_⟩; have n0_ := Aside0.mk (Kd.R_elder' (ra_ HO_8.out) (Kd.R_base ho0) hb); have n1_ := Aside0.mk (Kd.R_elder' (ra_ HO_10.out) (Kd.R_base ho0) hb); have n2_ := Aside0.mk (Kd.R_elder' (ra_ HO_11.out) (Kd.R_base ho0) hb); have n3_ := Aside0.mk (Kd.R_lower (Kd.R_new' (Kd.R_new' (Kd.R_new' ho0 (Kd.R_lt (ra_ HO_8.out))) (Kd.R_lt (ra_ HO_10.out))) (Kd.R_lt (ra_ HO_11.out))) (below_size blw_)); have n4_ := Aside0.mk (below_step blw_ hb); clear HO_8; clear HO_10; clear HO_11; clear HB; have HO_8 := n0_; have HO_10 := n1_; have HO_11 := n2_; have HO364 := n3_; have HB := n4_; clear n0_ n1_ n2_ n3_ n4_; (try clear hb); (try clear hb2); (try clear hk); (try clear hi); (try clear ho0); obtain ⟨Ao32, co32, eo32⟩ := Kd.R_slice HO364.out; subst eo32) | ((with_reducible refine gate_callee (f := 17) rfl ?_); refine goesL_ (some 52) rfl rfl Try.func17 (by kernel_rfl) rfl #[.slice Ao15 t354.length co15, .slice Ao32 t362.length co32] rfl amp_ ?_; (with_reducible refine (laws_eqDiagonalS.calls kj9 _ _ t354 _ _ t362 true _ ?side1 ?side2 ?side3 ?side4 A27.out).mono ?_); (case side1 => repeat (first | exact (Kd.R_reads' HO_10.out).2.2 | (with_reducible refine Kd.C_alloc ?_ _) | (with_reducible refine Kd.C_drewN ?_ _) | (with_reducible refine Kd.C_drew ?_))); (case side2 => exact (Kd.R_reads' HO_10.out).2.1); (case side3 => repeat (first | exact (Kd.R_reads' HO364.out).2.2 | (with_reducible refine Kd.C_alloc ?_ _) | (with_reducible refine Kd.C_drewN ?_ _) | (with_reducible refine Kd.C_drew ?_))); (case side4 => exact (Kd.R_reads' HO364.out).2.1); rintro e w33 ⟨rfl, hb⟩; refine ⟨_, rfl, ?_⟩; have n0_ := Aside0.mk (Kd.R_below (ra_ HO_8.out) hb); have n1_ := Aside0.mk (Kd.R_below (ra_ HO_10.out) hb); have n2_ := Aside0.mk (Kd.R_below (ra_ HO_11.out) hb); have n3_ := Aside0.mk (Kd.R_below (ra_ HO364.out) hb); have n4_ := Aside0.mk (below_step blw_ hb); clear HO_8; clear HO_10; clear HO_11; clear HO364; clear HB; have HO_8 := n0_; have HO_10 := n1_; have HO_11 := n2_; have HO364 := n3_; have HB := n4_; clear n0_ n1_ n2_ n3_ n4_; (try clear hb); (try clear hb2); (try clear hk); (try clear hi)) | ((with_reducible refine gate_callee (f := 18) rfl ?_); refine goesL_ (some 56) rfl rfl Try.func18 (by kernel_rfl) rfl #[.slice Ao15 t354.length co15, .int .i64 1] rfl amp_ ?_; (with_reducible refine (laws_markDiagonalS.calls kj9 (fun k_ => some k_ = (.slice Ao15 t354.length co15 : Value).ownBlock) (.slice Ao15 t354.length co15) t354 1 t366 t367 w _ ?side1 ?side2 A29.out).mono ?_); (case side1 => repeat (first | (with_reducible first | exact HB.out | apply below_alloc | apply pw_below_drewN | apply below_drew1) | exact HB.out)); (case side2 => exact Kd.R_tight rfl HO_10.out); rintro e w34 ⟨rfl, hy0, hb, hkp⟩; refine ⟨_, rfl, ?_⟩; have n0_ := Aside0.mk (Kd.R_mono (ok' := fun k_ => some k_ ≠ (.slice Ao15 t354.length co15 : Value).ownBlock ∧ some k_ ≠ (v359 : Value).ownBlock ∧ some k_ ≠ (.slice Ao32 t362.length co32 : Value).ownBlock) (Kd.R_keptB (HO_8.out) hkp (fun k_ hk_ hs_ => (hk_.1.1) hs_)) (fun k_ hk_ => ⟨hk_.1.1.1, hk_.1.1.2, hk_.1.2⟩)); have n1_ := Aside0.mk (Kd.R_reok rfl hy0 (fun k_ e_ => HO_10.out.1 k_ e_)); have n2_ := Aside0.mk (Kd.R_mono (ok' := fun k_ => some k_ ≠ (v351 : Value).ownBlock ∧ some k_ ≠ (.slice Ao15 t354.length co15 : Value).ownBlock ∧ some k_ ≠ (.slice Ao32 t362.length co32 : Value).ownBlock) (Kd.R_keptB (HO_11.out) hkp (fun k_ hk_ hs_ => (hk_.1.2) hs_)) (fun k_ hk_ => ⟨hk_.1.1.1, hk_.1.1.2, hk_.1.2⟩)); have n3_ := Aside0.mk (Kd.R_mono (ok' := fun k_ => some k_ ≠ (v351 : Value).ownBlock ∧ some k_ ≠ (.slice Ao15 t354.length co15 : Value).ownBlock ∧ some k_ ≠ (v359 : Value).ownBlock) (Kd.R_keptB (HO364.out) hkp (fun k_ hk_ hs_ => (hk_.1.2) hs_)) (fun k_ hk_ => ⟨hk_.1.1.1.2, hk_.1.1.2, hk_.1.2⟩)); have n4_ := Aside0.mk (hb); clear HO_8; clear HO_10; clear HO_11; clear HO364; clear HB; have HO_8 := n0_; have HO_10 := n1_; have HO_11 := n2_; have HO364 := n3_; have HB := n4_; clear n0_ n1_ n2_ n3_ n4_; (try clear hb); (try clear hkp); (try clear hy0)))
      (try simp only [Act.put, List.setIfInBounds_toArray, List.set_cons_zero, List.set_cons_succ])
      go_cut [69] (fun v69 wc => ∃ (kq : Nat) (x69_29 : Bool), v69 = .bool x69_29 ∧ Aside0 (laws_FnExactFlipsToFan.j1 kq a0 l1 a2 t350 t353 t357 x69_29 = some r) ∧ Aside0 (kq ≤ kj9) ∧ Aside0 (Kd.R k36 36 wc w.heap.size (fun k_ => some k_ ≠ (v359 : Value).ownBlock) v351 t350) ∧ Aside0 (Kd.R k36 36 wc w.heap.size (fun k_ => some k_ ≠ (v351 : Value).ownBlock) v359 t357) ∧ Aside0 (Below w.heap.size w wc))
      case first =>
       have H := HC30.out
       clear HC30
       by_cases c35 : t366 < 0
       ·rw [if_pos c35] at H
        have c35b0 : decide (t366 < 0) = true := decide_eq_true c35
        clear c35
        (first | rw [c35b0] | (simp only [i64_w, i32_w]; rw [c35b0]) | skip)
        have H' := Aside0.mk H
        clear H
        go_wp2
        go_meet
        case rel => exact ⟨_, (true), (by first | rfl | (simp; done) | (simp [*]; done)), H', ⟨by have := HJ9.out; first | omega | exact Nat.le_refl _⟩, ⟨by (with_reducible repeat (first | apply Kd.R_alloc | apply Kd.R_drewN | apply Kd.R_drew)); exact Kd.R_mono HO_8.out (fun _ hk => hk.2.1)⟩, ⟨by (with_reducible repeat (first | apply Kd.R_alloc | apply Kd.R_drewN | apply Kd.R_drew)); exact Kd.R_mono HO_11.out (fun _ hk => hk.1)⟩, ⟨by repeat (first | (with_reducible first | exact HB.out | apply below_alloc | apply pw_below_drewN | apply below_drew1) | exact HB.out)⟩⟩
       ·rw [if_neg c35] at H
        have c35b0 : decide (t366 < 0) = false := decide_eq_false c35
        clear c35
        (first | rw [c35b0] | (simp only [i64_w, i32_w]; rw [c35b0]) | skip)
        replace H := Option.bind_eq_some_iff.mp H
        obtain ⟨t368, A360, H⟩ := H
        replace H : (if t368 = true then (laws_FnExactFlipsToFan.j1 kj9 a0 l1 a2 t350 t353 t357 (t358 != t353)) else (laws_FnExactFlipsToFan.j1 kj9 a0 l1 a2 t350 t353 t357 true)) = some r := H
        have A36 := Aside0.mk A360
        clear A360
        by_cases c37 : t368 = true
        ·subst c37
         have H1 : (laws_FnExactFlipsToFan.j1 kj9 a0 l1 a2 t350 t353 t357 (t358 != t353)) = some r := by rw [if_pos rfl] at H; exact H
         clear H
         have H := H1
         clear H1
         have H' := Aside0.mk H
         clear H
         obtain ⟨Ao38, co38, eo38⟩ := Kd.R_slice HO_11.out
         subst eo38
         obtain ⟨Ao39, co39, eo39⟩ := Kd.R_slice HO_8.out
         subst eo39
         go_wp2_with (first | (go_at_call 17; (with_reducible refine (laws_eqDiagonalS.calls kj9 _ _ t357 _ _ t350 true _ ?side1 ?side2 ?side3 ?side4 A36.out).mono ?_); (case side1 => repeat (first | exact (Kd.R_reads' HO_11.out).2.2 | (with_reducible refine Kd.C_alloc ?_ _) | (with_reducible refine Kd.C_drewN ?_ _) | (with_reducible refine Kd.C_drew ?_))); (case side2 => exact (Kd.R_reads' HO_11.out).2.1); (case side3 => repeat (first | exact (Kd.R_reads' HO_8.out).2.2 | (with_reducible refine Kd.C_alloc ?_ _) | (with_reducible refine Kd.C_drewN ?_ _) | (with_reducible refine Kd.C_drew ?_))); (case side4 => exact (Kd.R_reads' HO_8.out).2.1); rintro e w40 ⟨rfl, hb⟩; have n0_ := Aside0.mk (Kd.R_below (ra_ HO_8.out) hb); have n1_ := Aside0.mk (Kd.R_below (ra_ HO_10.out) hb); have n2_ := Aside0.mk (Kd.R_below (ra_ HO_11.out) hb); have n3_ := Aside0.mk (Kd.R_below (ra_ HO364.out) hb); have n4_ := Aside0.mk (below_step blw_ hb); clear HO_8; clear HO_10; clear HO_11; clear HO364; clear HB; have HO_8 := n0_; have HO_10 := n1_; have HO_11 := n2_; have HO364 := n3_; have HB := n4_; clear n0_ n1_ n2_ n3_ n4_; (try clear hb); (try clear hb2); (try clear hk); (try clear hi)))
         go_meet
         case rel => exact ⟨_, ((t358 != t353)), (by first | rfl | (simp; done) | (simp [*]; done)), H', ⟨by have := HJ9.out; first | omega | exact Nat.le_refl _⟩, ⟨by (with_reducible repeat (first | apply Kd.R_alloc | apply Kd.R_drewN | apply Kd.R_drew)); exact Kd.R_mono HO_8.out (fun _ hk => hk.2.1)⟩, ⟨by (with_reducible repeat (first | apply Kd.R_alloc | apply Kd.R_drewN | apply Kd.R_drew)); exact Kd.R_mono HO_11.out (fun _ hk => hk.1)⟩, ⟨by repeat (first | (with_reducible first | exact HB.out | apply below_alloc | apply pw_below_drewN | apply below_drew1) | exact HB.out)⟩⟩
        ·replace c37 := Bool.eq_false_iff.mpr c37
         subst c37
         have H1 : (laws_FnExactFlipsToFan.j1 kj9 a0 l1 a2 t350 t353 t357 true) = some r := by rw [if_neg (show ¬ (false = true) by decide)] at H; exact H
         clear H
         have H := H1
         clear H1
         have H' := Aside0.mk H
         clear H
         obtain ⟨Ao41, co41, eo41⟩ := Kd.R_slice HO_11.out
         subst eo41
         obtain ⟨Ao42, co42, eo42⟩ := Kd.R_slice HO_8.out
         subst eo42
         go_wp2_with (first | (go_at_call 17; (with_reducible refine (laws_eqDiagonalS.calls kj9 _ _ t357 _ _ t350 false _ ?side1 ?side2 ?side3 ?side4 A36.out).mono ?_); (case side1 => repeat (first | exact (Kd.R_reads' HO_11.out).2.2 | (with_reducible refine Kd.C_alloc ?_ _) | (with_reducible refine Kd.C_drewN ?_ _) | (with_reducible refine Kd.C_drew ?_))); (case side2 => exact (Kd.R_reads' HO_11.out).2.1); (case side3 => repeat (first | exact (Kd.R_reads' HO_8.out).2.2 | (with_reducible refine Kd.C_alloc ?_ _) | (with_reducible refine Kd.C_drewN ?_ _) | (with_reducible refine Kd.C_drew ?_))); (case side4 => exact (Kd.R_reads' HO_8.out).2.1); rintro e w43 ⟨rfl, hb⟩; have n0_ := Aside0.mk (Kd.R_below (ra_ HO_8.out) hb); have n1_ := Aside0.mk (Kd.R_below (ra_ HO_10.out) hb); have n2_ := Aside0.mk (Kd.R_below (ra_ HO_11.out) hb); have n3_ := Aside0.mk (Kd.R_below (ra_ HO364.out) hb); have n4_ := Aside0.mk (below_step blw_ hb); clear HO_8; clear HO_10; clear HO_11; clear HO364; clear HB; have HO_8 := n0_; have HO_10 := n1_; have HO_11 := n2_; have HO364 := n3_; have HB := n4_; clear n0_ n1_ n2_ n3_ n4_; (try clear hb); (try clear hb2); (try clear hk); (try clear hi)))
         go_meet
         case rel => exact ⟨_, (true), (by first | rfl | (simp; done) | (simp [*]; done)), H', ⟨by have := HJ9.out; first | omega | exact Nat.le_refl _⟩, ⟨by (with_reducible repeat (first | apply Kd.R_alloc | apply Kd.R_drewN | apply Kd.R_drew)); exact Kd.R_mono HO_8.out (fun _ hk => hk.2.1)⟩, ⟨by (with_reducible repeat (first | apply Kd.R_alloc | apply Kd.R_drewN | apply Kd.R_drew)); exact Kd.R_mono HO_11.out (fun _ hk => hk.1)⟩, ⟨by repeat (first | (with_reducible first | exact HB.out | apply below_alloc | apply pw_below_drewN | apply below_drew1) | exact HB.out)⟩⟩
      case rest =>
       clear HC30
       try clear c1
       try clear c2
       try clear p2
       try clear c3
       try clear c4
       try clear c5
       try clear c5b0
       try clear c13
       try clear c17
       try clear c18
       try clear c20
       try clear c22
       try clear c25
       try clear c28
       try clear c35
       try clear c35b0
       try clear c37
       try clear p2
       obtain ⟨kq, x69_29, rfl, HA, HJ29, HO_8, HO_11, HB⟩ := hcut
       cases kq with
       | zero => exact absurd HA.out (by simp [laws_FnExactFlipsToFan.j1])
       | succ kj29 =>
        have H := HA.out
        clear HA
        simp only [laws_FnExactFlipsToFan.j1] at H
        by_cases c44 : x69_29 = true
        ·subst c44
         have H1 : (some false) = some r := by rw [if_pos rfl] at H; exact H
         clear H
         have H := H1
         clear H1
         exact absurd (H.trans (congrArg some htrue.out)) (by decide)
        ·replace c44 := Bool.eq_false_iff.mpr c44
         subst c44
         have H1 : ((laws_markDiagonalS.f kj29 t357 1).bind fun bt369 => ((laws_heldDiagonalS.f kj29 bt369.2 1).bind fun t371 => (if t371 < 0 then (some false) else (if t371 = bt369.1 then ((laws_toDiagonalS.f kj29 l1).bind fun t372 => ((impl_FlipsToFan.f kj29 a0 t372 a2).bind fun bt375 => ((laws_eqDiagonalS.f kj29 bt375.1 t350).bind fun t379 => (if t379 = true then (laws_FnExactFlipsToFan.j2 kj29 bt369.2 bt369.1 (bt375.2 != t353)) else (laws_FnExactFlipsToFan.j2 kj29 bt369.2 bt369.1 true))))) else (some false))))) = some r := by rw [if_neg (show ¬ (false = true) by decide)] at H; exact H
         clear H
         have H := H1
         clear H1
         replace H := Option.bind_eq_some_iff.mp H
         obtain ⟨⟨t369, t370⟩, A450, H⟩ := H
         replace H : ((laws_heldDiagonalS.f kj29 t370 1).bind fun t371 => (if t371 < 0 then (some false) else (if t371 = t369 then ((laws_toDiagonalS.f kj29 l1).bind fun t372 => ((impl_FlipsToFan.f kj29 a0 t372 a2).bind fun bt375 => ((laws_eqDiagonalS.f kj29 bt375.1 t350).bind fun t379 => (if t379 = true then (laws_FnExactFlipsToFan.j2 kj29 t370 t369 (bt375.2 != t353)) else (laws_FnExactFlipsToFan.j2 kj29 t370 t369 true))))) else (some false)))) = some r := H
         have A45 := Aside0.mk A450
         clear A450
         replace H := Option.bind_eq_some_iff.mp H
         obtain ⟨t371, A460, H⟩ := H
         replace H : (if t371 < 0 then (some false) else (if t371 = t369 then ((laws_toDiagonalS.f kj29 l1).bind fun t372 => ((impl_FlipsToFan.f kj29 a0 t372 a2).bind fun bt375 => ((laws_eqDiagonalS.f kj29 bt375.1 t350).bind fun t379 => (if t379 = true then (laws_FnExactFlipsToFan.j2 kj29 t370 t369 (bt375.2 != t353)) else (laws_FnExactFlipsToFan.j2 kj29 t370 t369 true))))) else (some false))) = some r := H
         have A46 := Aside0.mk A460
         clear A460
         by_cases c47 : t371 < 0
         ·rw [if_pos c47] at H
          have c47b0 : decide (t371 < 0) = true := decide_eq_true c47
          clear c47
          exact absurd (H.trans (congrArg some htrue.out)) (by decide)
         ·rw [if_neg c47] at H
          have c47b0 : decide (t371 < 0) = false := decide_eq_false c47
          clear c47
          by_cases c48 : t371 = t369
          ·rw [if_pos c48] at H
           have c48b0 : (t371 == t369) = true := beq_iff_eq.mpr c48
           have c48b1 : (t371 != t369) = false := bne_eq_false_iff_eq.mpr c48
           clear c48
           replace H := Option.bind_eq_some_iff.mp H
           obtain ⟨t372, A490, H⟩ := H
           replace H : ((impl_FlipsToFan.f kj29 a0 t372 a2).bind fun bt375 => ((laws_eqDiagonalS.f kj29 bt375.1 t350).bind fun t379 => (if t379 = true then (laws_FnExactFlipsToFan.j2 kj29 t370 t369 (bt375.2 != t353)) else (laws_FnExactFlipsToFan.j2 kj29 t370 t369 true)))) = some r := H
           have A49 := Aside0.mk A490
           clear A490
           replace H := Option.bind_eq_some_iff.mp H
           obtain ⟨⟨t375, t376⟩, A500, H⟩ := H
           replace H : ((laws_eqDiagonalS.f kj29 t375 t350).bind fun t379 => (if t379 = true then (laws_FnExactFlipsToFan.j2 kj29 t370 t369 (t376 != t353)) else (laws_FnExactFlipsToFan.j2 kj29 t370 t369 true))) = some r := H
           have A50 := Aside0.mk A500
           clear A500
           have HC51 := Aside0.mk H
           clear H
           obtain ⟨Ao52, co52, eo52⟩ := Kd.R_slice HO_11.out
           subst eo52
           go_upto_region 25 with (first | ((with_reducible refine gate_callee (f := 18) rfl ?_); refine goesL_ (some 72) rfl rfl Try.func18 (by kernel_rfl) rfl #[.slice Ao52 t357.length co52, .int .i64 1] rfl amp_ ?_; (with_reducible refine (laws_markDiagonalS.calls kj29 (fun k_ => some k_ = (.slice Ao52 t357.length co52 : Value).ownBlock) (.slice Ao52 t357.length co52) t357 1 t369 t370 w _ ?side1 ?side2 A45.out).mono ?_); (case side1 => repeat (first | (with_reducible first | exact HB.out | apply below_alloc | apply pw_below_drewN | apply below_drew1) | exact HB.out)); (case side2 => exact Kd.R_tight rfl HO_11.out); rintro e w53 ⟨rfl, hy0, hb, hkp⟩; refine ⟨_, rfl, ?_⟩; have n0_ := Aside0.mk (Kd.R_mono (ok' := fun k_ => some k_ ≠ (.slice Ao52 t357.length co52 : Value).ownBlock) (Kd.R_keptB (HO_8.out) hkp (fun k_ hk_ hs_ => (hk_) hs_)) (fun k_ hk_ => hk_.1)); have n1_ := Aside0.mk (Kd.R_reok rfl hy0 (fun k_ e_ => HO_11.out.1 k_ e_)); have n2_ := Aside0.mk (hb); clear HO_8; clear HO_11; clear HB; have HO_8 := n0_; have HO_11 := n1_; have HB := n2_; clear n0_ n1_ n2_; (try clear hb); (try clear hkp); (try clear hy0)) | ((with_reducible refine gate_callee (f := 19) rfl ?_); refine goesL_ (some 75) rfl rfl Try.func19 (by kernel_rfl) rfl #[.slice Ao52 t370.length co52, .int .i64 1] rfl (by (try simp only [List.map_toArray, List.map_cons, List.map_nil]); first | done | (rw [show t370.length = t357.length from (Kd.R_reads' HO_11.out).1.symm] <;> rfl) | rfl | (simp only [List.length_drop, List.length_take]; rfl)) ?_; (with_reducible refine (laws_heldDiagonalS.calls kj29 _ _ t370 1 t371 _ ?side1 ?side2 A46.out).mono ?_); (case side1 => repeat (first | exact (Kd.R_reads' HO_11.out).2.2 | (with_reducible refine Kd.C_alloc ?_ _) | (with_reducible refine Kd.C_drewN ?_ _) | (with_reducible refine Kd.C_drew ?_))); (case side2 => rw [show t370.length = t357.length from (Kd.R_reads' HO_11.out).1.symm]; exact (Kd.R_reads' HO_11.out).2.1); rintro e w' ⟨rfl, ⟨nd, rfl⟩⟩; refine ⟨_, rfl, ?_⟩) | ((with_reducible refine gate_callee (f := 22) rfl ?_); refine goesL_ (some 84) rfl rfl Try.func22 (by kernel_rfl) rfl #[.slice A1 l1.length c1] rfl amp_ ?_; (with_reducible refine (laws_toDiagonalS.calls kj29 _ _ l1 t372 _ ?side1 ?side2 A49.out).mono ?_); (case side1 => repeat (first | exact (Kd.C_below HR1.out blw_) | (with_reducible refine Kd.C_alloc ?_ _) | (with_reducible refine Kd.C_drewN ?_ _) | (with_reducible refine Kd.C_drew ?_))); (case side2 => exact HC1.out); rintro e w54 ⟨v373, rfl, ho0, hb⟩; refine ⟨_, rfl, ?_⟩; have n0_ := Aside0.mk (Kd.R_elder' (ra_ HO_8.out) (Kd.R_base ho0) hb); have n1_ := Aside0.mk (Kd.R_elder' (ra_ HO_11.out) (Kd.R_base ho0) hb); have n2_ := Aside0.mk (Kd.R_lower (Kd.R_new' (Kd.R_new' ho0 (Kd.R_lt (ra_ HO_8.out))) (Kd.R_lt (ra_ HO_11.out))) (below_size blw_)); have n3_ := Aside0.mk (below_step blw_ hb); clear HO_8; clear HO_11; clear HB; have HO_8 := n0_; have HO_11 := n1_; have HO374 := n2_; have HB := n3_; clear n0_ n1_ n2_ n3_; (try clear hb); (try clear hb2); (try clear hk); (try clear hi); (try clear ho0); obtain ⟨Ao55, co55, eo55⟩ := Kd.R_slice HO374.out; subst eo55) | ((with_reducible refine gate_callee (f := 49) rfl ?_); refine goesL_ (some 86) rfl rfl Try.func49 (by kernel_rfl) rfl #[.int .i64 a0, .slice Ao55 t372.length co55, .int .i64 a2] rfl amp_ ?_; (with_reducible refine (impl_FlipsToFan.calls kj29 a0 _ _ t372 a2 t375 t376 _ ?side1 ?side2 A50.out).mono ?_); (case side1 => repeat (first | exact (Kd.R_reads' HO374.out).2.2 | (with_reducible refine Kd.C_alloc ?_ _) | (with_reducible refine Kd.C_drewN ?_ _) | (with_reducible refine Kd.C_drew ?_))); (case side2 => exact (Kd.R_reads' HO374.out).2.1); rintro e w56 ⟨v377, rfl, ho0, hb⟩; refine ⟨_, rfl, ?_⟩; have n0_ := Aside0.mk (Kd.R_elder' (ra_ HO_8.out) (Kd.R_base ho0) hb); have n1_ := Aside0.mk (Kd.R_elder' (ra_ HO_11.out) (Kd.R_base ho0) hb); have n2_ := Aside0.mk (Kd.R_elder' (ra_ HO374.out) (Kd.R_base ho0) hb); have n3_ := Aside0.mk (Kd.R_lower (Kd.R_new' (Kd.R_new' (Kd.R_new' ho0 (Kd.R_lt (ra_ HO_8.out))) (Kd.R_lt (ra_ HO_11.out))) (Kd.R_lt (ra_ HO374.out))) (below_size blw_)); have n4_ := Aside0.mk (below_step blw_ hb); clear HO_8; clear HO_11; clear HO374; clear HB; have HO_8 := n0_; have HO_11 := n1_; have HO374 := n2_; have HO378 := n3_; have HB := n4_; clear n0_ n1_ n2_ n3_ n4_; (try clear hb); (try clear hb2); (try clear hk); (try clear hi); (try clear ho0)))
           (try simp only [Act.put, List.setIfInBounds_toArray, List.set_cons_zero, List.set_cons_succ])
           go_cut [97] (fun v97 wc => ∃ (kq : Nat) (x97_50 : Bool), v97 = .bool x97_50 ∧ Aside0 (laws_FnExactFlipsToFan.j2 kq t370 t369 x97_50 = some r) ∧ Aside0 (kq ≤ kj29) ∧ Aside0 (Kd.R k36 36 wc w.heap.size (fun _ => True) (.slice Ao52 t357.length co52) t370) ∧ Aside0 (Below w.heap.size w wc))
           case first =>
            have H := HC51.out
            clear HC51
            replace H := Option.bind_eq_some_iff.mp H
            obtain ⟨t379, A570, H⟩ := H
            replace H : (if t379 = true then (laws_FnExactFlipsToFan.j2 kj29 t370 t369 (t376 != t353)) else (laws_FnExactFlipsToFan.j2 kj29 t370 t369 true)) = some r := H
            have A57 := Aside0.mk A570
            clear A570
            by_cases c58 : t379 = true
            ·subst c58
             have H1 : (laws_FnExactFlipsToFan.j2 kj29 t370 t369 (t376 != t353)) = some r := by rw [if_pos rfl] at H; exact H
             clear H
             have H := H1
             clear H1
             have H' := Aside0.mk H
             clear H
             obtain ⟨Ao59, co59, eo59⟩ := Kd.R_slice HO378.out
             subst eo59
             obtain ⟨Ao60, co60, eo60⟩ := Kd.R_slice HO_8.out
             subst eo60
             go_wp2_with (first | ((with_reducible refine gate_callee (f := 17) rfl ?_); refine goesL_ (some 91) rfl rfl Try.func17 (by kernel_rfl) rfl #[.slice Ao59 t375.length co59, .slice Ao60 t350.length co60] rfl amp_ ?_; (with_reducible refine (laws_eqDiagonalS.calls kj29 _ _ t375 _ _ t350 true _ ?side1 ?side2 ?side3 ?side4 A57.out).mono ?_); (case side1 => repeat (first | exact (Kd.R_reads' HO378.out).2.2 | (with_reducible refine Kd.C_alloc ?_ _) | (with_reducible refine Kd.C_drewN ?_ _) | (with_reducible refine Kd.C_drew ?_))); (case side2 => exact (Kd.R_reads' HO378.out).2.1); (case side3 => repeat (first | exact (Kd.R_reads' HO_8.out).2.2 | (with_reducible refine Kd.C_alloc ?_ _) | (with_reducible refine Kd.C_drewN ?_ _) | (with_reducible refine Kd.C_drew ?_))); (case side4 => exact (Kd.R_reads' HO_8.out).2.1); rintro e w61 ⟨rfl, hb⟩; refine ⟨_, rfl, ?_⟩; have n0_ := Aside0.mk (Kd.R_below (ra_ HO_8.out) hb); have n1_ := Aside0.mk (Kd.R_below (ra_ HO_11.out) hb); have n2_ := Aside0.mk (Kd.R_below (ra_ HO374.out) hb); have n3_ := Aside0.mk (Kd.R_below (ra_ HO378.out) hb); have n4_ := Aside0.mk (below_step blw_ hb); clear HO_8; clear HO_11; clear HO374; clear HO378; clear HB; have HO_8 := n0_; have HO_11 := n1_; have HO374 := n2_; have HO378 := n3_; have HB := n4_; clear n0_ n1_ n2_ n3_ n4_; (try clear hb); (try clear hb2); (try clear hk); (try clear hi)))
             go_meet
             case rel => exact ⟨_, ((t376 != t353)), (by first | rfl | (simp; done) | (simp [*]; done)), H', ⟨by have := HJ9.out; have := HJ29.out; first | omega | exact Nat.le_refl _⟩, ⟨by (with_reducible repeat (first | apply Kd.R_alloc | apply Kd.R_drewN | apply Kd.R_drew)); exact Kd.R_mono HO_11.out (fun _ hk => trivial)⟩, ⟨by repeat (first | (with_reducible first | exact HB.out | apply below_alloc | apply pw_below_drewN | apply below_drew1) | exact HB.out)⟩⟩
            ·replace c58 := Bool.eq_false_iff.mpr c58
             subst c58
             have H1 : (laws_FnExactFlipsToFan.j2 kj29 t370 t369 true) = some r := by rw [if_neg (show ¬ (false = true) by decide)] at H; exact H
             clear H
             have H := H1
             clear H1
             have H' := Aside0.mk H
             clear H
             obtain ⟨Ao62, co62, eo62⟩ := Kd.R_slice HO378.out
             subst eo62
             obtain ⟨Ao63, co63, eo63⟩ := Kd.R_slice HO_8.out
             subst eo63
             go_wp2_with (first | ((with_reducible refine gate_callee (f := 17) rfl ?_); refine goesL_ (some 91) rfl rfl Try.func17 (by kernel_rfl) rfl #[.slice Ao62 t375.length co62, .slice Ao63 t350.length co63] rfl amp_ ?_; (with_reducible refine (laws_eqDiagonalS.calls kj29 _ _ t375 _ _ t350 false _ ?side1 ?side2 ?side3 ?side4 A57.out).mono ?_); (case side1 => repeat (first | exact (Kd.R_reads' HO378.out).2.2 | (with_reducible refine Kd.C_alloc ?_ _) | (with_reducible refine Kd.C_drewN ?_ _) | (with_reducible refine Kd.C_drew ?_))); (case side2 => exact (Kd.R_reads' HO378.out).2.1); (case side3 => repeat (first | exact (Kd.R_reads' HO_8.out).2.2 | (with_reducible refine Kd.C_alloc ?_ _) | (with_reducible refine Kd.C_drewN ?_ _) | (with_reducible refine Kd.C_drew ?_))); (case side4 => exact (Kd.R_reads' HO_8.out).2.1); rintro e w64 ⟨rfl, hb⟩; refine ⟨_, rfl, ?_⟩; have n0_ := Aside0.mk (Kd.R_below (ra_ HO_8.out) hb); have n1_ := Aside0.mk (Kd.R_below (ra_ HO_11.out) hb); have n2_ := Aside0.mk (Kd.R_below (ra_ HO374.out) hb); have n3_ := Aside0.mk (Kd.R_below (ra_ HO378.out) hb); have n4_ := Aside0.mk (below_step blw_ hb); clear HO_8; clear HO_11; clear HO374; clear HO378; clear HB; have HO_8 := n0_; have HO_11 := n1_; have HO374 := n2_; have HO378 := n3_; have HB := n4_; clear n0_ n1_ n2_ n3_ n4_; (try clear hb); (try clear hb2); (try clear hk); (try clear hi)))
             go_meet
             case rel => exact ⟨_, (true), (by first | rfl | (simp; done) | (simp [*]; done)), H', ⟨by have := HJ9.out; have := HJ29.out; first | omega | exact Nat.le_refl _⟩, ⟨by (with_reducible repeat (first | apply Kd.R_alloc | apply Kd.R_drewN | apply Kd.R_drew)); exact Kd.R_mono HO_11.out (fun _ hk => trivial)⟩, ⟨by repeat (first | (with_reducible first | exact HB.out | apply below_alloc | apply pw_below_drewN | apply below_drew1) | exact HB.out)⟩⟩
           case rest =>
            clear HC51
            try clear c1
            try clear c2
            try clear p2
            try clear c3
            try clear c4
            try clear c5
            try clear c5b0
            try clear c13
            try clear c17
            try clear c18
            try clear c19
            try clear c20
            try clear c22
            try clear c25
            try clear c28
            try clear c35
            try clear c35b0
            try clear c37
            try clear c44
            try clear c47
            try clear c47b0
            try clear c48
            try clear c48b0
            try clear c48b1
            try clear c49
            try clear c58
            try clear p2
            obtain ⟨kq, x97_50, rfl, HA, HJ50, HO_11, HB⟩ := hcut
            have hl11_50 := (Kd.R_reads' HO_11.out).1
            rw [hl11_50] at HO_11
            (try simp only [hl11_50])
            cases kq with
            | zero => exact absurd HA.out (by simp [laws_FnExactFlipsToFan.j2])
            | succ kj50 =>
             have H := HA.out
             clear HA
             simp only [laws_FnExactFlipsToFan.j2] at H
             by_cases c65 : x97_50 = true
             ·subst c65
              have H1 : (some false) = some r := by rw [if_pos rfl] at H; exact H
              clear H
              have H := H1
              clear H1
              exact absurd (H.trans (congrArg some htrue.out)) (by decide)
             ·replace c65 := Bool.eq_false_iff.mpr c65
              subst c65
              have H1 : ((laws_heldDiagonalS.f kj50 t370 1).bind fun t380 => (if t380 < 0 then (some false) else (if t380 = t369 then (some true) else (some false)))) = some r := by rw [if_neg (show ¬ (false = true) by decide)] at H; exact H
              clear H
              have H := H1
              clear H1
              replace H := Option.bind_eq_some_iff.mp H
              obtain ⟨t380, A660, H⟩ := H
              replace H : (if t380 < 0 then (some false) else (if t380 = t369 then (some true) else (some false))) = some r := H
              have A66 := Aside0.mk A660
              clear A660
              by_cases c67 : t380 < 0
              ·rw [if_pos c67] at H
               have c67b0 : decide (t380 < 0) = true := decide_eq_true c67
               clear c67
               exact absurd (H.trans (congrArg some htrue.out)) (by decide)
              ·rw [if_neg c67] at H
               have c67b0 : decide (t380 < 0) = false := decide_eq_false c67
               clear c67
               by_cases c68 : t380 = t369
               ·rw [if_pos c68] at H
                have c68b0 : (t380 == t369) = true := beq_iff_eq.mpr c68
                have c68b1 : (t380 != t369) = false := bne_eq_false_iff_eq.mpr c68
                clear c68
                obtain rfl := Option.some.inj H
                go_wp2_with (first | ((with_reducible refine gate_callee (f := 19) rfl ?_); refine goesL_ (some 100) rfl rfl Try.func19 (by kernel_rfl) rfl #[.slice Ao52 t370.length co52, .int .i64 1] rfl amp_ ?_; (with_reducible refine (laws_heldDiagonalS.calls kj50 _ _ t370 1 t380 _ ?side1 ?side2 A66.out).mono ?_); (case side1 => repeat (first | exact (Kd.R_reads' HO_11.out).2.2 | (with_reducible refine Kd.C_alloc ?_ _) | (with_reducible refine Kd.C_drewN ?_ _) | (with_reducible refine Kd.C_drew ?_))); (case side2 => exact (Kd.R_reads' HO_11.out).2.1); rintro e w' ⟨rfl, ⟨nd, rfl⟩⟩; refine ⟨_, rfl, ?_⟩))
                go_ret
                exact ⟨by first | rfl | (simp [errW_none, errW_some] <;> rfl) | (simp [*, errW_none, errW_some] <;> rfl), by repeat (first | (with_reducible first | exact HB.out | apply below_alloc | apply pw_below_drewN | apply below_drew1) | exact HB.out)⟩
               ·rw [if_neg c68] at H
                have c68b0 : (t380 == t369) = false := beq_eq_false_iff_ne.mpr c68
                have c68b1 : (t380 != t369) = true := bne_iff_ne.mpr c68
                exact absurd (H.trans (congrArg some htrue.out)) (by decide)
          ·rw [if_neg c48] at H
           have c48b0 : (t371 == t369) = false := beq_eq_false_iff_ne.mpr c48
           have c48b1 : (t371 != t369) = true := bne_iff_ne.mpr c48
           exact absurd (H.trans (congrArg some htrue.out)) (by decide)
     ·replace c28 := Bool.eq_false_iff.mpr c28
      subst c28
      have H1 : (some false) = some r := by rw [if_neg (show ¬ (false = true) by decide)] at H; exact H
      clear H
      have H := H1
      clear H1
      exact absurd (H.trans (congrArg some htrue.out)) (by decide)

end Go.Proofs.Ytkipgbakoljaeaa.PFnExactFlipsToFan
