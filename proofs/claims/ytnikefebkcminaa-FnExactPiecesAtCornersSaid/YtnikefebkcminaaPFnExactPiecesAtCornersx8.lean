-- WRITTEN BY A PROGRAM OF THIS WORK (wip/tools/ppatch.py) for this claim.
import Derived.Test.YtnikefebkcminaaPFnExactPiecesAtCornersx0
import Derived.Test.YtnikefebkcminaaPFnExactPiecesAtCornersx1
import Derived.Test.YtnikefebkcminaaPFnExactPiecesAtCornersx2
import Derived.Test.YtnikefebkcminaaPFnExactPiecesAtCornersx4
import Derived.Test.YtnikefebkcminaaPFnExactPiecesAtCornersx7
namespace Go.Proofs.Ytnikefebkcminaa.PFnExactPiecesAtCorners
open Go.RowKit Go.Proofs.YtnikefebkcminaaW.PrintWords Go.Proofs.YtnikefebkcminaaW.PrintLast Go.Proofs.YtnikefebkcminaaW.PrintMore
attribute [local go_sem] max2_int min2_int max_two min_two max_three min_three max_four min_four   -- for this text's walks alone
set_option linter.unusedVariables false
set_option linter.unusedSimpArgs false

/-! ### laws_FnExactPiecesAtCorners: function 8 -/
mutual
def laws_FnExactPiecesAtCorners.j0 : Nat → Int → List (S82) → List Int → Bool → List (S72) → List Int → Bool → Bool → Option (Bool)
 | 0, _, _, _, _, _, _, _, _ => none
 | k + 1, x0, x1, x6, x7, x8, x9, x10, x44 => if x44 = true then (some false) else ((laws_toDiagonalS.f k x1).bind fun t232 => ((laws_eqDiagonalS.f k x8 t232).bind fun t235 => (if t235 = true then ((laws_markDiagonalS.f k x8 1).bind fun bt236 => (if bt236.1 < 0 then (laws_FnExactPiecesAtCorners.j1 k x0 x1 x6 x7 x9 true) else ((laws_eqIntS.f k x9 x6).bind fun t238 => (if t238 = true then (laws_FnExactPiecesAtCorners.j1 k x0 x1 x6 x7 x9 (x10 != x7)) else (laws_FnExactPiecesAtCorners.j1 k x0 x1 x6 x7 x9 true))))) else (some false))))
def laws_FnExactPiecesAtCorners.j1 : Nat → Int → List (S82) → List Int → Bool → List Int → Bool → Option (Bool)
 | 0, _, _, _, _, _, _ => none
 | k + 1, x0, x1, x6, x7, x9, x65 => if x65 = true then (some false) else ((laws_markIntS.f k x9 1).bind fun bt239 => ((laws_heldIntS.f k bt239.2 1).bind fun t241 => (if t241 < 0 then (some false) else (if t241 = bt239.1 then ((laws_toDiagonalS.f k x1).bind fun t242 => ((impl_PiecesAtCorners.f k x0 t242).bind fun bt245 => ((laws_eqIntS.f k bt245.1 x6).bind fun t249 => (if t249 = true then (laws_FnExactPiecesAtCorners.j2 k bt239.2 bt239.1 (bt245.2 != x7)) else (laws_FnExactPiecesAtCorners.j2 k bt239.2 bt239.1 true))))) else (some false)))))
def laws_FnExactPiecesAtCorners.j2 : Nat → List Int → Int → Bool → Option (Bool)
 | 0, _, _, _ => none
 | k + 1, x9, x12, x92 => if x92 = true then (some false) else ((laws_heldIntS.f k x9 1).bind fun t250 => (if t250 < 0 then (some false) else (if t250 = x12 then (some true) else (some false))))
end
def laws_FnExactPiecesAtCorners.f (k : Nat) (a0 : Int) (l1 : List (S82)) : Option (Bool) := (laws_szDiagonalS.f l1 1048576).bind fun t216 => (if t216 < 0 then (some true) else ((laws_toDiagonalS.f k l1).bind fun t217 => ((spec_PiecesAtCorners.f k a0 t217).bind fun bt220 => ((laws_toDiagonalS.f k l1).bind fun t224 => ((impl_PiecesAtCorners.f k a0 t224).bind fun bt227 => ((laws_eqIntS.f k bt227.1 bt220.1).bind fun t231 => (if t231 = true then (laws_FnExactPiecesAtCorners.j0 k a0 l1 bt220.1 bt220.2 t224 bt227.1 bt227.2 (bt227.2 != bt220.2)) else (laws_FnExactPiecesAtCorners.j0 k a0 l1 bt220.1 bt220.2 t224 bt227.1 bt227.2 true))))))))
theorem laws_FnExactPiecesAtCorners.mono_l : ∀ k, (∀ y0 y1 y2 y3 y4 y5 y6 y7, LeO (laws_FnExactPiecesAtCorners.j0 k y0 y1 y2 y3 y4 y5 y6 y7) (laws_FnExactPiecesAtCorners.j0 (k + 1) y0 y1 y2 y3 y4 y5 y6 y7)) ∧ (∀ y0 y1 y2 y3 y4 y5, LeO (laws_FnExactPiecesAtCorners.j1 k y0 y1 y2 y3 y4 y5) (laws_FnExactPiecesAtCorners.j1 (k + 1) y0 y1 y2 y3 y4 y5)) ∧ (∀ y0 y1 y2, LeO (laws_FnExactPiecesAtCorners.j2 k y0 y1 y2) (laws_FnExactPiecesAtCorners.j2 (k + 1) y0 y1 y2))
 | 0 => ⟨fun _ _ _ _ _ _ _ _ r h => by simp [laws_FnExactPiecesAtCorners.j0] at h, fun _ _ _ _ _ _ r h => by simp [laws_FnExactPiecesAtCorners.j1] at h, fun _ _ _ r h => by simp [laws_FnExactPiecesAtCorners.j2] at h⟩
 | k + 1 => by
  obtain ⟨ih0, ih1, ih2⟩ := laws_FnExactPiecesAtCorners.mono_l k
  refine ⟨?_, ?_, ?_⟩
  ·intro y0 y1 y2 y3 y4 y5 y6 y7
   unfold laws_FnExactPiecesAtCorners.j0
   repeat' first
   | (with_reducible exact ih0 _ _ _ _ _ _ _ _)
   | (with_reducible exact ih1 _ _ _ _ _ _)
   | (with_reducible exact ih2 _ _ _)
   | (with_reducible exact impl_PiecesAtCorners.mono _ _ _)
   | (with_reducible exact laws_eqDiagonalS.mono _ _ _)
   | (with_reducible exact laws_eqIntS.mono _ _ _)
   | (with_reducible exact laws_heldIntS.mono _ _ _)
   | (with_reducible exact laws_markDiagonalS.mono _ _ _)
   | (with_reducible exact laws_markIntS.mono _ _ _)
   | (with_reducible exact laws_toDiagonalS.mono _ _)
   | (with_reducible exact spec_PiecesAtCorners.mono _ _ _)
   | (with_reducible exact LeO.refl _)
   | (with_reducible exact LeO.none _)
   | (with_reducible refine LeO.ite ?_ ?_)
   | (with_reducible refine LeO.bind ?_ (fun _ => ?_))
   | exact ih0 _ _ _ _ _ _ _ _
   | exact ih1 _ _ _ _ _ _
   | exact ih2 _ _ _
   | exact impl_PiecesAtCorners.mono _ _ _
   | exact laws_eqDiagonalS.mono _ _ _
   | exact laws_eqIntS.mono _ _ _
   | exact laws_heldIntS.mono _ _ _
   | exact laws_markDiagonalS.mono _ _ _
   | exact laws_markIntS.mono _ _ _
   | exact laws_toDiagonalS.mono _ _
   | exact spec_PiecesAtCorners.mono _ _ _
   | exact LeO.none _
   | refine LeO.ite ?_ ?_
   | refine LeO.bind ?_ (fun _ => ?_)
  ·intro y0 y1 y2 y3 y4 y5
   unfold laws_FnExactPiecesAtCorners.j1
   repeat' first
   | (with_reducible exact ih0 _ _ _ _ _ _ _ _)
   | (with_reducible exact ih1 _ _ _ _ _ _)
   | (with_reducible exact ih2 _ _ _)
   | (with_reducible exact impl_PiecesAtCorners.mono _ _ _)
   | (with_reducible exact laws_eqDiagonalS.mono _ _ _)
   | (with_reducible exact laws_eqIntS.mono _ _ _)
   | (with_reducible exact laws_heldIntS.mono _ _ _)
   | (with_reducible exact laws_markDiagonalS.mono _ _ _)
   | (with_reducible exact laws_markIntS.mono _ _ _)
   | (with_reducible exact laws_toDiagonalS.mono _ _)
   | (with_reducible exact spec_PiecesAtCorners.mono _ _ _)
   | (with_reducible exact LeO.refl _)
   | (with_reducible exact LeO.none _)
   | (with_reducible refine LeO.ite ?_ ?_)
   | (with_reducible refine LeO.bind ?_ (fun _ => ?_))
   | exact ih0 _ _ _ _ _ _ _ _
   | exact ih1 _ _ _ _ _ _
   | exact ih2 _ _ _
   | exact impl_PiecesAtCorners.mono _ _ _
   | exact laws_eqDiagonalS.mono _ _ _
   | exact laws_eqIntS.mono _ _ _
   | exact laws_heldIntS.mono _ _ _
   | exact laws_markDiagonalS.mono _ _ _
   | exact laws_markIntS.mono _ _ _
   | exact laws_toDiagonalS.mono _ _
   | exact spec_PiecesAtCorners.mono _ _ _
   | exact LeO.none _
   | refine LeO.ite ?_ ?_
   | refine LeO.bind ?_ (fun _ => ?_)
  ·intro y0 y1 y2
   unfold laws_FnExactPiecesAtCorners.j2
   repeat' first
   | (with_reducible exact ih0 _ _ _ _ _ _ _ _)
   | (with_reducible exact ih1 _ _ _ _ _ _)
   | (with_reducible exact ih2 _ _ _)
   | (with_reducible exact impl_PiecesAtCorners.mono _ _ _)
   | (with_reducible exact laws_eqDiagonalS.mono _ _ _)
   | (with_reducible exact laws_eqIntS.mono _ _ _)
   | (with_reducible exact laws_heldIntS.mono _ _ _)
   | (with_reducible exact laws_markDiagonalS.mono _ _ _)
   | (with_reducible exact laws_markIntS.mono _ _ _)
   | (with_reducible exact laws_toDiagonalS.mono _ _)
   | (with_reducible exact spec_PiecesAtCorners.mono _ _ _)
   | (with_reducible exact LeO.refl _)
   | (with_reducible exact LeO.none _)
   | (with_reducible refine LeO.ite ?_ ?_)
   | (with_reducible refine LeO.bind ?_ (fun _ => ?_))
   | exact ih0 _ _ _ _ _ _ _ _
   | exact ih1 _ _ _ _ _ _
   | exact ih2 _ _ _
   | exact impl_PiecesAtCorners.mono _ _ _
   | exact laws_eqDiagonalS.mono _ _ _
   | exact laws_eqIntS.mono _ _ _
   | exact laws_heldIntS.mono _ _ _
   | exact laws_markDiagonalS.mono _ _ _
   | exact laws_markIntS.mono _ _ _
   | exact laws_toDiagonalS.mono _ _
   | exact spec_PiecesAtCorners.mono _ _ _
   | exact LeO.none _
   | refine LeO.ite ?_ ?_
   | refine LeO.bind ?_ (fun _ => ?_)
theorem laws_FnExactPiecesAtCorners.mono : ∀ a0 a1 k, LeO (laws_FnExactPiecesAtCorners.f k a0 a1) (laws_FnExactPiecesAtCorners.f (k + 1) a0 a1) := by
 intro a0 a1 k
 obtain ⟨ih0, ih1, ih2⟩ := laws_FnExactPiecesAtCorners.mono_l k
 unfold laws_FnExactPiecesAtCorners.f
 repeat' first
   | (with_reducible exact ih0 _ _ _ _ _ _ _ _)
   | (with_reducible exact ih1 _ _ _ _ _ _)
   | (with_reducible exact ih2 _ _ _)
   | (with_reducible exact impl_PiecesAtCorners.mono _ _ _)
   | (with_reducible exact laws_eqDiagonalS.mono _ _ _)
   | (with_reducible exact laws_eqIntS.mono _ _ _)
   | (with_reducible exact laws_heldIntS.mono _ _ _)
   | (with_reducible exact laws_markDiagonalS.mono _ _ _)
   | (with_reducible exact laws_markIntS.mono _ _ _)
   | (with_reducible exact laws_toDiagonalS.mono _ _)
   | (with_reducible exact spec_PiecesAtCorners.mono _ _ _)
   | (with_reducible exact LeO.refl _)
   | (with_reducible exact LeO.none _)
   | (with_reducible refine LeO.ite ?_ ?_)
   | (with_reducible refine LeO.bind ?_ (fun _ => ?_))
   | exact ih0 _ _ _ _ _ _ _ _
   | exact ih1 _ _ _ _ _ _
   | exact ih2 _ _ _
   | exact impl_PiecesAtCorners.mono _ _ _
   | exact laws_eqDiagonalS.mono _ _ _
   | exact laws_eqIntS.mono _ _ _
   | exact laws_heldIntS.mono _ _ _
   | exact laws_markDiagonalS.mono _ _ _
   | exact laws_markIntS.mono _ _ _
   | exact laws_toDiagonalS.mono _ _
   | exact spec_PiecesAtCorners.mono _ _ _
   | exact LeO.none _
   | refine LeO.ite ?_ ?_
   | refine LeO.bind ?_ (fun _ => ?_)
set_option maxHeartbeats 8000000 in
set_option maxRecDepth 100000 in
theorem laws_FnExactPiecesAtCorners.calls (k : Nat) (a0 : Int) (A1 : Option Addr) (c1 : Nat) (l1 : List (S82)) (r : Bool) (w : World) (hr1 : Kd.C k82 w A1 l1.length l1) (hc1 : l1.length ≤ c1) (h : laws_FnExactPiecesAtCorners.f k a0 l1 = some r) (htrue : Aside0 (r = true) := by exact ⟨rfl⟩) :
  Calls Try.prog 8 #[.int .i64 a0, .slice A1 l1.length c1] w fun e w' => e = .returned (.bool r) ∧ Below w.heap.size w w' := by
 have HR1 := Aside0.mk hr1
 have HC1 := Aside0.mk hc1
 clear hr1 hc1
 have HB := Aside0.mk (Below.refl w.heap.size w)
 have H : ((laws_szDiagonalS.f l1 1048576).bind fun t216 => (if t216 < 0 then (some true) else ((laws_toDiagonalS.f k l1).bind fun t217 => ((spec_PiecesAtCorners.f k a0 t217).bind fun bt220 => ((laws_toDiagonalS.f k l1).bind fun t224 => ((impl_PiecesAtCorners.f k a0 t224).bind fun bt227 => ((laws_eqIntS.f k bt227.1 bt220.1).bind fun t231 => (if t231 = true then (laws_FnExactPiecesAtCorners.j0 k a0 l1 bt220.1 bt220.2 t224 bt227.1 bt227.2 (bt227.2 != bt220.2)) else (laws_FnExactPiecesAtCorners.j0 k a0 l1 bt220.1 bt220.2 t224 bt227.1 bt227.2 true))))))))) = some r := h
 clear h
 replace H := Option.bind_eq_some_iff.mp H
 obtain ⟨t216, A30, H⟩ := H
 replace H : (if t216 < 0 then (some true) else ((laws_toDiagonalS.f k l1).bind fun t217 => ((spec_PiecesAtCorners.f k a0 t217).bind fun bt220 => ((laws_toDiagonalS.f k l1).bind fun t224 => ((impl_PiecesAtCorners.f k a0 t224).bind fun bt227 => ((laws_eqIntS.f k bt227.1 bt220.1).bind fun t231 => (if t231 = true then (laws_FnExactPiecesAtCorners.j0 k a0 l1 bt220.1 bt220.2 t224 bt227.1 bt227.2 (bt227.2 != bt220.2)) else (laws_FnExactPiecesAtCorners.j0 k a0 l1 bt220.1 bt220.2 t224 bt227.1 bt227.2 true)))))))) = some r := H
 have A3 := Aside0.mk A30
 clear A30
 by_cases c4 : t216 < 0
 ·rw [if_pos c4] at H
  have c4b0 : decide (t216 < 0) = true := decide_eq_true c4
  clear c4
  obtain rfl := Option.some.inj H
  go_enter Try.func8, Try.ntmps8
  go_wp2_with (first | ((with_reducible refine gate_callee (f := 28) rfl ?_); refine goesL_ (some 18) rfl rfl Try.func28 (by kernel_rfl) rfl #[.slice A1 l1.length c1, .int .i64 1048576] rfl amp_ ?_; (with_reducible refine (laws_szDiagonalS.calls _ _ l1 1048576 t216 _ ?side1 ?side2 A3.out).mono ?_); (case side1 => repeat (first | exact HR1.out | (with_reducible refine Kd.C_alloc ?_ _) | (with_reducible refine Kd.C_drewN ?_ _) | (with_reducible refine Kd.C_drew ?_))); (case side2 => exact HC1.out); rintro e w' ⟨rfl, ⟨nd, rfl⟩⟩; refine ⟨_, rfl, ?_⟩))
  go_ret
  exact ⟨by first | rfl | (simp [errW_none, errW_some] <;> rfl) | (simp [*, errW_none, errW_some] <;> rfl), by repeat (first | (with_reducible first | exact HB.out | apply below_alloc | apply pw_below_drewN | apply below_drew1) | exact HB.out)⟩
 ·rw [if_neg c4] at H
  have c4b0 : decide (t216 < 0) = false := decide_eq_false c4
  clear c4
  replace H := Option.bind_eq_some_iff.mp H
  obtain ⟨t217, A50, H⟩ := H
  replace H : ((spec_PiecesAtCorners.f k a0 t217).bind fun bt220 => ((laws_toDiagonalS.f k l1).bind fun t224 => ((impl_PiecesAtCorners.f k a0 t224).bind fun bt227 => ((laws_eqIntS.f k bt227.1 bt220.1).bind fun t231 => (if t231 = true then (laws_FnExactPiecesAtCorners.j0 k a0 l1 bt220.1 bt220.2 t224 bt227.1 bt227.2 (bt227.2 != bt220.2)) else (laws_FnExactPiecesAtCorners.j0 k a0 l1 bt220.1 bt220.2 t224 bt227.1 bt227.2 true)))))) = some r := H
  have A5 := Aside0.mk A50
  clear A50
  replace H := Option.bind_eq_some_iff.mp H
  obtain ⟨⟨t220, t221⟩, A60, H⟩ := H
  replace H : ((laws_toDiagonalS.f k l1).bind fun t224 => ((impl_PiecesAtCorners.f k a0 t224).bind fun bt227 => ((laws_eqIntS.f k bt227.1 t220).bind fun t231 => (if t231 = true then (laws_FnExactPiecesAtCorners.j0 k a0 l1 t220 t221 t224 bt227.1 bt227.2 (bt227.2 != t221)) else (laws_FnExactPiecesAtCorners.j0 k a0 l1 t220 t221 t224 bt227.1 bt227.2 true))))) = some r := H
  have A6 := Aside0.mk A60
  clear A60
  replace H := Option.bind_eq_some_iff.mp H
  obtain ⟨t224, A70, H⟩ := H
  replace H : ((impl_PiecesAtCorners.f k a0 t224).bind fun bt227 => ((laws_eqIntS.f k bt227.1 t220).bind fun t231 => (if t231 = true then (laws_FnExactPiecesAtCorners.j0 k a0 l1 t220 t221 t224 bt227.1 bt227.2 (bt227.2 != t221)) else (laws_FnExactPiecesAtCorners.j0 k a0 l1 t220 t221 t224 bt227.1 bt227.2 true)))) = some r := H
  have A7 := Aside0.mk A70
  clear A70
  replace H := Option.bind_eq_some_iff.mp H
  obtain ⟨⟨t227, t228⟩, A80, H⟩ := H
  replace H : ((laws_eqIntS.f k t227 t220).bind fun t231 => (if t231 = true then (laws_FnExactPiecesAtCorners.j0 k a0 l1 t220 t221 t224 t227 t228 (t228 != t221)) else (laws_FnExactPiecesAtCorners.j0 k a0 l1 t220 t221 t224 t227 t228 true))) = some r := H
  have A8 := Aside0.mk A80
  clear A80
  have HC9 := Aside0.mk H
  clear H
  go_enter Try.func8, Try.ntmps8
  go_upto_region 8 with (first | ((with_reducible refine gate_callee (f := 28) rfl ?_); refine goesL_ (some 18) rfl rfl Try.func28 (by kernel_rfl) rfl #[.slice A1 l1.length c1, .int .i64 1048576] rfl amp_ ?_; (with_reducible refine (laws_szDiagonalS.calls _ _ l1 1048576 t216 _ ?side1 ?side2 A3.out).mono ?_); (case side1 => repeat (first | exact HR1.out | (with_reducible refine Kd.C_alloc ?_ _) | (with_reducible refine Kd.C_drewN ?_ _) | (with_reducible refine Kd.C_drew ?_))); (case side2 => exact HC1.out); rintro e w' ⟨rfl, ⟨nd, rfl⟩⟩; refine ⟨_, rfl, ?_⟩) | ((with_reducible refine gate_callee (f := 30) rfl ?_); refine goesL_ (some 24) rfl rfl Try.func30 (by kernel_rfl) rfl #[.slice A1 l1.length c1] rfl amp_ ?_; (with_reducible refine (laws_toDiagonalS.calls k _ _ l1 t217 _ ?side1 ?side2 A5.out).mono ?_); (case side1 => repeat (first | exact HR1.out | (with_reducible refine Kd.C_alloc ?_ _) | (with_reducible refine Kd.C_drewN ?_ _) | (with_reducible refine Kd.C_drew ?_))); (case side2 => exact HC1.out); rintro e w10 ⟨v218, rfl, ho0, hb⟩; refine ⟨_, rfl, ?_⟩; have n0_ := Aside0.mk (Kd.R_lower ho0 (below_size blw_)); have n1_ := Aside0.mk (below_step blw_ hb); clear HB; have HO219 := n0_; have HB := n1_; clear n0_ n1_; (try clear hb); (try clear hb2); (try clear hk); (try clear hi); (try clear ho0); obtain ⟨Ao11, co11, eo11⟩ := Kd.R_slice HO219.out; subst eo11) | ((with_reducible refine gate_callee (f := 34) rfl ?_); refine goesL_ (some 25) rfl rfl Try.func34 (by kernel_rfl) rfl #[.int .i64 a0, .slice Ao11 t217.length co11] rfl amp_ ?_; (with_reducible refine (spec_PiecesAtCorners.calls k a0 _ _ t217 t220 t221 _ ?side1 ?side2 A6.out).mono ?_); (case side1 => repeat (first | exact (Kd.R_reads' HO219.out).2.2 | (with_reducible refine Kd.C_alloc ?_ _) | (with_reducible refine Kd.C_drewN ?_ _) | (with_reducible refine Kd.C_drew ?_))); (case side2 => exact (Kd.R_reads' HO219.out).2.1); rintro e w12 ⟨v222, rfl, ho0, hb⟩; refine ⟨_, rfl, ?_⟩; have n0_ := Aside0.mk (Kd.R_below (ra_ HO219.out) hb); have n1_ := Aside0.mk (Kd.R_lower ho0 (below_size blw_)); have n2_ := Aside0.mk (below_step blw_ hb); clear HO219; clear HB; have HO219 := n0_; have HO223 := n1_; have HB := n2_; clear n0_ n1_ n2_; (try clear hb); (try clear hb2); (try clear hk); (try clear hi); (try clear ho0)) | ((with_reducible refine gate_callee (f := 30) rfl ?_); refine goesL_ (some 29) rfl rfl Try.func30 (by kernel_rfl) rfl #[.slice A1 l1.length c1] rfl amp_ ?_; (with_reducible refine (laws_toDiagonalS.calls k _ _ l1 t224 _ ?side1 ?side2 A7.out).mono ?_); (case side1 => repeat (first | exact (Kd.C_below HR1.out HB.out) | (with_reducible refine Kd.C_alloc ?_ _) | (with_reducible refine Kd.C_drewN ?_ _) | (with_reducible refine Kd.C_drew ?_))); (case side2 => exact HC1.out); rintro e w13 ⟨v225, rfl, ho0, hb⟩; refine ⟨_, rfl, ?_⟩; have n0_ := Aside0.mk (Kd.R_elder' (ra_ HO219.out) (Kd.R_base ho0) hb); have n1_ := Aside0.mk (Kd.R_below (ra_ HO223.out) hb); have n2_ := Aside0.mk (Kd.R_lower (Kd.R_new' ho0 (Kd.R_lt (ra_ HO219.out))) (below_size blw_)); have n3_ := Aside0.mk (below_step blw_ hb); clear HO219; clear HO223; clear HB; have HO219 := n0_; have HO223 := n1_; have HO226 := n2_; have HB := n3_; clear n0_ n1_ n2_ n3_; (try clear hb); (try clear hb2); (try clear hk); (try clear hi); (try clear ho0); obtain ⟨Ao14, co14, eo14⟩ := Kd.R_slice HO226.out; subst eo14) | ((with_reducible refine gate_callee (f := 35) rfl ?_); refine goesL_ (some 33) rfl rfl Try.func35 (by kernel_rfl) rfl #[.int .i64 a0, .slice Ao14 t224.length co14] rfl amp_ ?_; (with_reducible refine (impl_PiecesAtCorners.calls k a0 _ _ t224 t227 t228 _ ?side1 ?side2 A8.out).mono ?_); (case side1 => repeat (first | exact (Kd.R_reads' HO226.out).2.2 | (with_reducible refine Kd.C_alloc ?_ _) | (with_reducible refine Kd.C_drewN ?_ _) | (with_reducible refine Kd.C_drew ?_))); (case side2 => exact (Kd.R_reads' HO226.out).2.1); rintro e w15 ⟨v229, rfl, ho0, hb⟩; refine ⟨_, rfl, ?_⟩; have n0_ := Aside0.mk (Kd.R_below (ra_ HO219.out) hb); have n1_ := Aside0.mk (Kd.R_elder' (ra_ HO223.out) (Kd.R_base ho0) hb); have n2_ := Aside0.mk (Kd.R_below (ra_ HO226.out) hb); have n3_ := Aside0.mk (Kd.R_lower (Kd.R_new' ho0 (Kd.R_lt (ra_ HO223.out))) (below_size blw_)); have n4_ := Aside0.mk (below_step blw_ hb); clear HO219; clear HO223; clear HO226; clear HB; have HO219 := n0_; have HO223 := n1_; have HO226 := n2_; have HO230 := n3_; have HB := n4_; clear n0_ n1_ n2_ n3_ n4_; (try clear hb); (try clear hb2); (try clear hk); (try clear hi); (try clear ho0)))
  (try simp only [Act.put, List.setIfInBounds_toArray, List.set_cons_zero, List.set_cons_succ])
  go_cut [44] (fun v44 wc => ∃ (kq : Nat) (x44_8 : Bool), v44 = .bool x44_8 ∧ Aside0 (laws_FnExactPiecesAtCorners.j0 kq a0 l1 t220 t221 t224 t227 t228 x44_8 = some r) ∧ Aside0 (kq ≤ k) ∧ Aside0 (Kd.R (Kd.int .i64) 3 wc w.heap.size (fun k_ => some k_ ≠ (v229 : Value).ownBlock) v222 t220) ∧ Aside0 (Kd.R k72 72 wc w.heap.size (fun _ => True) (.slice Ao14 t224.length co14) t224) ∧ Aside0 (Kd.R (Kd.int .i64) 3 wc w.heap.size (fun k_ => some k_ ≠ (v222 : Value).ownBlock) v229 t227) ∧ Aside0 (Below w.heap.size w wc))
  case first =>
   have H := HC9.out
   clear HC9
   replace H := Option.bind_eq_some_iff.mp H
   obtain ⟨t231, A160, H⟩ := H
   replace H : (if t231 = true then (laws_FnExactPiecesAtCorners.j0 k a0 l1 t220 t221 t224 t227 t228 (t228 != t221)) else (laws_FnExactPiecesAtCorners.j0 k a0 l1 t220 t221 t224 t227 t228 true)) = some r := H
   have A16 := Aside0.mk A160
   clear A160
   by_cases c17 : t231 = true
   ·subst c17
    have H1 : (laws_FnExactPiecesAtCorners.j0 k a0 l1 t220 t221 t224 t227 t228 (t228 != t221)) = some r := by rw [if_pos rfl] at H; exact H
    clear H
    have H := H1
    clear H1
    have H' := Aside0.mk H
    clear H
    obtain ⟨Ao18, co18, eo18⟩ := Kd.R_slice HO230.out
    subst eo18
    obtain ⟨Ao19, co19, eo19⟩ := Kd.R_slice HO223.out
    subst eo19
    go_wp2_with (first | ((with_reducible refine gate_callee (f := 21) rfl ?_); refine goesL_ (some 38) rfl rfl Try.func21 (by kernel_rfl) rfl #[.slice Ao18 t227.length co18, .slice Ao19 t220.length co19] rfl amp_ ?_; (with_reducible refine (laws_eqIntS.calls k _ _ t227 _ _ t220 true _ ?side1 ?side2 ?side3 ?side4 A16.out).mono ?_); (case side1 => repeat (first | exact (Kd.R_reads' HO230.out).2.2 | (with_reducible refine Kd.C_alloc ?_ _) | (with_reducible refine Kd.C_drewN ?_ _) | (with_reducible refine Kd.C_drew ?_))); (case side2 => exact (Kd.R_reads' HO230.out).2.1); (case side3 => repeat (first | exact (Kd.R_reads' HO223.out).2.2 | (with_reducible refine Kd.C_alloc ?_ _) | (with_reducible refine Kd.C_drewN ?_ _) | (with_reducible refine Kd.C_drew ?_))); (case side4 => exact (Kd.R_reads' HO223.out).2.1); rintro e w' ⟨rfl, ⟨nd, rfl⟩⟩; refine ⟨_, rfl, ?_⟩))
    go_meet
    case rel => exact ⟨_, ((t228 != t221)), (by first | rfl | (simp; done) | (simp [*]; done)), H', ⟨by first | omega | exact Nat.le_refl _⟩, ⟨by (with_reducible repeat (first | apply Kd.R_alloc | apply Kd.R_drewN | apply Kd.R_drew)); exact Kd.R_mono HO223.out (fun _ hk => hk.2)⟩, ⟨by (with_reducible repeat (first | apply Kd.R_alloc | apply Kd.R_drewN | apply Kd.R_drew)); exact Kd.R_mono HO226.out (fun _ hk => trivial)⟩, ⟨by (with_reducible repeat (first | apply Kd.R_alloc | apply Kd.R_drewN | apply Kd.R_drew)); exact Kd.R_mono HO230.out (fun _ hk => hk.2)⟩, ⟨by repeat (first | (with_reducible first | exact HB.out | apply below_alloc | apply pw_below_drewN | apply below_drew1) | exact HB.out)⟩⟩
   ·replace c17 := Bool.eq_false_iff.mpr c17
    subst c17
    have H1 : (laws_FnExactPiecesAtCorners.j0 k a0 l1 t220 t221 t224 t227 t228 true) = some r := by rw [if_neg (show ¬ (false = true) by decide)] at H; exact H
    clear H
    have H := H1
    clear H1
    have H' := Aside0.mk H
    clear H
    obtain ⟨Ao20, co20, eo20⟩ := Kd.R_slice HO230.out
    subst eo20
    obtain ⟨Ao21, co21, eo21⟩ := Kd.R_slice HO223.out
    subst eo21
    go_wp2_with (first | ((with_reducible refine gate_callee (f := 21) rfl ?_); refine goesL_ (some 38) rfl rfl Try.func21 (by kernel_rfl) rfl #[.slice Ao20 t227.length co20, .slice Ao21 t220.length co21] rfl amp_ ?_; (with_reducible refine (laws_eqIntS.calls k _ _ t227 _ _ t220 false _ ?side1 ?side2 ?side3 ?side4 A16.out).mono ?_); (case side1 => repeat (first | exact (Kd.R_reads' HO230.out).2.2 | (with_reducible refine Kd.C_alloc ?_ _) | (with_reducible refine Kd.C_drewN ?_ _) | (with_reducible refine Kd.C_drew ?_))); (case side2 => exact (Kd.R_reads' HO230.out).2.1); (case side3 => repeat (first | exact (Kd.R_reads' HO223.out).2.2 | (with_reducible refine Kd.C_alloc ?_ _) | (with_reducible refine Kd.C_drewN ?_ _) | (with_reducible refine Kd.C_drew ?_))); (case side4 => exact (Kd.R_reads' HO223.out).2.1); rintro e w' ⟨rfl, ⟨nd, rfl⟩⟩; refine ⟨_, rfl, ?_⟩))
    go_meet
    case rel => exact ⟨_, (true), (by first | rfl | (simp; done) | (simp [*]; done)), H', ⟨by first | omega | exact Nat.le_refl _⟩, ⟨by (with_reducible repeat (first | apply Kd.R_alloc | apply Kd.R_drewN | apply Kd.R_drew)); exact Kd.R_mono HO223.out (fun _ hk => hk.2)⟩, ⟨by (with_reducible repeat (first | apply Kd.R_alloc | apply Kd.R_drewN | apply Kd.R_drew)); exact Kd.R_mono HO226.out (fun _ hk => trivial)⟩, ⟨by (with_reducible repeat (first | apply Kd.R_alloc | apply Kd.R_drewN | apply Kd.R_drew)); exact Kd.R_mono HO230.out (fun _ hk => hk.2)⟩, ⟨by repeat (first | (with_reducible first | exact HB.out | apply below_alloc | apply pw_below_drewN | apply below_drew1) | exact HB.out)⟩⟩
  case rest =>
   clear HC9
   try clear c1
   try clear c2
   try clear p2
   try clear c3
   try clear c4
   try clear c4b0
   try clear c8
   try clear c17
   try clear c21
   obtain ⟨kq, x44_8, rfl, HA, HJ8, HO_6, HO_8, HO_9, HB⟩ := hcut
   cases kq with
   | zero => exact absurd HA.out (by simp [laws_FnExactPiecesAtCorners.j0])
   | succ kj8 =>
    have H := HA.out
    clear HA
    simp only [laws_FnExactPiecesAtCorners.j0] at H
    by_cases c22 : x44_8 = true
    ·subst c22
     have H1 : (some false) = some r := by rw [if_pos rfl] at H; exact H
     clear H
     have H := H1
     clear H1
     exact absurd (H.trans (congrArg some htrue.out)) (by decide)
    ·replace c22 := Bool.eq_false_iff.mpr c22
     subst c22
     have H1 : ((laws_toDiagonalS.f kj8 l1).bind fun t232 => ((laws_eqDiagonalS.f kj8 t224 t232).bind fun t235 => (if t235 = true then ((laws_markDiagonalS.f kj8 t224 1).bind fun bt236 => (if bt236.1 < 0 then (laws_FnExactPiecesAtCorners.j1 kj8 a0 l1 t220 t221 t227 true) else ((laws_eqIntS.f kj8 t227 t220).bind fun t238 => (if t238 = true then (laws_FnExactPiecesAtCorners.j1 kj8 a0 l1 t220 t221 t227 (t228 != t221)) else (laws_FnExactPiecesAtCorners.j1 kj8 a0 l1 t220 t221 t227 true))))) else (some false)))) = some r := by rw [if_neg (show ¬ (false = true) by decide)] at H; exact H
     clear H
     have H := H1
     clear H1
     replace H := Option.bind_eq_some_iff.mp H
     obtain ⟨t232, A230, H⟩ := H
     replace H : ((laws_eqDiagonalS.f kj8 t224 t232).bind fun t235 => (if t235 = true then ((laws_markDiagonalS.f kj8 t224 1).bind fun bt236 => (if bt236.1 < 0 then (laws_FnExactPiecesAtCorners.j1 kj8 a0 l1 t220 t221 t227 true) else ((laws_eqIntS.f kj8 t227 t220).bind fun t238 => (if t238 = true then (laws_FnExactPiecesAtCorners.j1 kj8 a0 l1 t220 t221 t227 (t228 != t221)) else (laws_FnExactPiecesAtCorners.j1 kj8 a0 l1 t220 t221 t227 true))))) else (some false))) = some r := H
     have A23 := Aside0.mk A230
     clear A230
     replace H := Option.bind_eq_some_iff.mp H
     obtain ⟨t235, A240, H⟩ := H
     replace H : (if t235 = true then ((laws_markDiagonalS.f kj8 t224 1).bind fun bt236 => (if bt236.1 < 0 then (laws_FnExactPiecesAtCorners.j1 kj8 a0 l1 t220 t221 t227 true) else ((laws_eqIntS.f kj8 t227 t220).bind fun t238 => (if t238 = true then (laws_FnExactPiecesAtCorners.j1 kj8 a0 l1 t220 t221 t227 (t228 != t221)) else (laws_FnExactPiecesAtCorners.j1 kj8 a0 l1 t220 t221 t227 true))))) else (some false)) = some r := H
     have A24 := Aside0.mk A240
     clear A240
     by_cases c25 : t235 = true
     ·subst c25
      have H1 : ((laws_markDiagonalS.f kj8 t224 1).bind fun bt236 => (if bt236.1 < 0 then (laws_FnExactPiecesAtCorners.j1 kj8 a0 l1 t220 t221 t227 true) else ((laws_eqIntS.f kj8 t227 t220).bind fun t238 => (if t238 = true then (laws_FnExactPiecesAtCorners.j1 kj8 a0 l1 t220 t221 t227 (t228 != t221)) else (laws_FnExactPiecesAtCorners.j1 kj8 a0 l1 t220 t221 t227 true))))) = some r := by rw [if_pos rfl] at H; exact H
      clear H
      have H := H1
      clear H1
      replace H := Option.bind_eq_some_iff.mp H
      obtain ⟨⟨t236, t237⟩, A260, H⟩ := H
      replace H : (if t236 < 0 then (laws_FnExactPiecesAtCorners.j1 kj8 a0 l1 t220 t221 t227 true) else ((laws_eqIntS.f kj8 t227 t220).bind fun t238 => (if t238 = true then (laws_FnExactPiecesAtCorners.j1 kj8 a0 l1 t220 t221 t227 (t228 != t221)) else (laws_FnExactPiecesAtCorners.j1 kj8 a0 l1 t220 t221 t227 true)))) = some r := H
      have A26 := Aside0.mk A260
      clear A260
      have HC27 := Aside0.mk H
      clear H
      go_upto_region 14 with (first | ((with_reducible refine gate_callee (f := 30) rfl ?_); refine goesL_ (some 47) rfl rfl Try.func30 (by kernel_rfl) rfl #[.slice A1 l1.length c1] rfl amp_ ?_; (with_reducible refine (laws_toDiagonalS.calls kj8 _ _ l1 t232 _ ?side1 ?side2 A23.out).mono ?_); (case side1 => repeat (first | exact (Kd.C_below HR1.out HB.out) | (with_reducible refine Kd.C_alloc ?_ _) | (with_reducible refine Kd.C_drewN ?_ _) | (with_reducible refine Kd.C_drew ?_))); (case side2 => exact HC1.out); rintro e w28 ⟨v233, rfl, ho0, hb⟩; refine ⟨_, rfl, ?_⟩; have n0_ := Aside0.mk (Kd.R_below (ra_ HO_6.out) hb); have n1_ := Aside0.mk (Kd.R_elder' (ra_ HO_8.out) (Kd.R_base ho0) hb); have n2_ := Aside0.mk (Kd.R_below (ra_ HO_9.out) hb); have n3_ := Aside0.mk (Kd.R_lower (Kd.R_new' ho0 (Kd.R_lt (ra_ HO_8.out))) (below_size blw_)); have n4_ := Aside0.mk (below_step blw_ hb); clear HO_6; clear HO_8; clear HO_9; clear HB; have HO_6 := n0_; have HO_8 := n1_; have HO_9 := n2_; have HO234 := n3_; have HB := n4_; clear n0_ n1_ n2_ n3_ n4_; (try clear hb); (try clear hb2); (try clear hk); (try clear hi); (try clear ho0); obtain ⟨Ao29, co29, eo29⟩ := Kd.R_slice HO234.out; subst eo29) | ((with_reducible refine gate_callee (f := 20) rfl ?_); refine goesL_ (some 48) rfl rfl Try.func20 (by kernel_rfl) rfl #[.slice Ao14 t224.length co14, .slice Ao29 t232.length co29] rfl amp_ ?_; (with_reducible refine (laws_eqDiagonalS.calls kj8 _ _ t224 _ _ t232 true _ ?side1 ?side2 ?side3 ?side4 A24.out).mono ?_); (case side1 => repeat (first | exact (Kd.R_reads' HO_8.out).2.2 | (with_reducible refine Kd.C_alloc ?_ _) | (with_reducible refine Kd.C_drewN ?_ _) | (with_reducible refine Kd.C_drew ?_))); (case side2 => exact (Kd.R_reads' HO_8.out).2.1); (case side3 => repeat (first | exact (Kd.R_reads' HO234.out).2.2 | (with_reducible refine Kd.C_alloc ?_ _) | (with_reducible refine Kd.C_drewN ?_ _) | (with_reducible refine Kd.C_drew ?_))); (case side4 => exact (Kd.R_reads' HO234.out).2.1); rintro e w30 ⟨rfl, hb⟩; refine ⟨_, rfl, ?_⟩; have n0_ := Aside0.mk (Kd.R_below (ra_ HO_6.out) hb); have n1_ := Aside0.mk (Kd.R_below (ra_ HO_8.out) hb); have n2_ := Aside0.mk (Kd.R_below (ra_ HO_9.out) hb); have n3_ := Aside0.mk (Kd.R_below (ra_ HO234.out) hb); have n4_ := Aside0.mk (below_step blw_ hb); clear HO_6; clear HO_8; clear HO_9; clear HO234; clear HB; have HO_6 := n0_; have HO_8 := n1_; have HO_9 := n2_; have HO234 := n3_; have HB := n4_; clear n0_ n1_ n2_ n3_ n4_; (try clear hb); (try clear hb2); (try clear hk); (try clear hi)) | ((with_reducible refine gate_callee (f := 23) rfl ?_); refine goesL_ (some 52) rfl rfl Try.func23 (by kernel_rfl) rfl #[.slice Ao14 t224.length co14, .int .i64 1] rfl amp_ ?_; (with_reducible refine (laws_markDiagonalS.calls kj8 (fun k_ => some k_ = (.slice Ao14 t224.length co14 : Value).ownBlock) (.slice Ao14 t224.length co14) t224 1 t236 t237 w _ ?side1 ?side2 A26.out).mono ?_); (case side1 => repeat (first | (with_reducible first | exact HB.out | apply below_alloc | apply pw_below_drewN | apply below_drew1) | exact HB.out)); (case side2 => exact Kd.R_tight rfl HO_8.out); rintro e w31 ⟨rfl, hy0, hb, hkp⟩; refine ⟨_, rfl, ?_⟩; have n0_ := Aside0.mk (Kd.R_mono (ok' := fun k_ => some k_ ≠ (v229 : Value).ownBlock) (Kd.R_keptB ((Kd.R_apart' HO_6.out (Kd.R_typed HO_8.out) (by decide))) hkp (fun k_ hk_ hs_ => (hk_.2) hs_)) (fun k_ hk_ => hk_.1.1)); have n1_ := Aside0.mk (Kd.R_reok rfl hy0 (fun k_ e_ => HO_8.out.1 k_ e_)); have n2_ := Aside0.mk (Kd.R_mono (ok' := fun k_ => some k_ ≠ (v222 : Value).ownBlock) (Kd.R_keptB ((Kd.R_apart' HO_9.out (Kd.R_typed HO_8.out) (by decide))) hkp (fun k_ hk_ hs_ => (hk_.2) hs_)) (fun k_ hk_ => hk_.1.1)); have n3_ := Aside0.mk (Kd.R_mono (ok' := fun k_ => some k_ ≠ (.slice Ao14 t224.length co14 : Value).ownBlock) (Kd.R_keptB (HO234.out) hkp (fun k_ hk_ hs_ => (hk_.2) hs_)) (fun k_ hk_ => hk_.1.2)); have n4_ := Aside0.mk (hb); clear HO_6; clear HO_8; clear HO_9; clear HO234; clear HB; have HO_6 := n0_; have HO_8 := n1_; have HO_9 := n2_; have HO234 := n3_; have HB := n4_; clear n0_ n1_ n2_ n3_ n4_; (try clear hb); (try clear hkp); (try clear hy0)))
      (try simp only [Act.put, List.setIfInBounds_toArray, List.set_cons_zero, List.set_cons_succ])
      go_cut [65] (fun v65 wc => ∃ (kq : Nat) (x65_26 : Bool), v65 = .bool x65_26 ∧ Aside0 (laws_FnExactPiecesAtCorners.j1 kq a0 l1 t220 t221 t227 x65_26 = some r) ∧ Aside0 (kq ≤ kj8) ∧ Aside0 (Kd.R (Kd.int .i64) 3 wc w.heap.size (fun k_ => some k_ ≠ (v229 : Value).ownBlock) v222 t220) ∧ Aside0 (Kd.R (Kd.int .i64) 3 wc w.heap.size (fun k_ => some k_ ≠ (v222 : Value).ownBlock) v229 t227) ∧ Aside0 (Below w.heap.size w wc))
      case first =>
       have H := HC27.out
       clear HC27
       by_cases c32 : t236 < 0
       ·rw [if_pos c32] at H
        have c32b0 : decide (t236 < 0) = true := decide_eq_true c32
        clear c32
        (first | rw [c32b0] | (simp only [i64_w, i32_w]; rw [c32b0]) | skip)
        have H' := Aside0.mk H
        clear H
        go_wp2
        go_meet
        case rel => exact ⟨_, (true), (by first | rfl | (simp; done) | (simp [*]; done)), H', ⟨by have := HJ8.out; first | omega | exact Nat.le_refl _⟩, ⟨ra_ HO_6.out⟩, ⟨ra_ HO_9.out⟩, ⟨by repeat (first | (with_reducible first | exact HB.out | apply below_alloc | apply pw_below_drewN | apply below_drew1) | exact HB.out)⟩⟩
       ·rw [if_neg c32] at H
        have c32b0 : decide (t236 < 0) = false := decide_eq_false c32
        clear c32
        (first | rw [c32b0] | (simp only [i64_w, i32_w]; rw [c32b0]) | skip)
        replace H := Option.bind_eq_some_iff.mp H
        obtain ⟨t238, A330, H⟩ := H
        replace H : (if t238 = true then (laws_FnExactPiecesAtCorners.j1 kj8 a0 l1 t220 t221 t227 (t228 != t221)) else (laws_FnExactPiecesAtCorners.j1 kj8 a0 l1 t220 t221 t227 true)) = some r := H
        have A33 := Aside0.mk A330
        clear A330
        by_cases c34 : t238 = true
        ·subst c34
         have H1 : (laws_FnExactPiecesAtCorners.j1 kj8 a0 l1 t220 t221 t227 (t228 != t221)) = some r := by rw [if_pos rfl] at H; exact H
         clear H
         have H := H1
         clear H1
         have H' := Aside0.mk H
         clear H
         obtain ⟨Ao35, co35, eo35⟩ := Kd.R_slice HO_9.out
         subst eo35
         obtain ⟨Ao36, co36, eo36⟩ := Kd.R_slice HO_6.out
         subst eo36
         go_wp2_with (first | (go_at_call 21; (with_reducible refine (laws_eqIntS.calls kj8 _ _ t227 _ _ t220 true _ ?side1 ?side2 ?side3 ?side4 A33.out).mono ?_); (case side1 => repeat (first | exact (Kd.R_reads' HO_9.out).2.2 | (with_reducible refine Kd.C_alloc ?_ _) | (with_reducible refine Kd.C_drewN ?_ _) | (with_reducible refine Kd.C_drew ?_))); (case side2 => exact (Kd.R_reads' HO_9.out).2.1); (case side3 => repeat (first | exact (Kd.R_reads' HO_6.out).2.2 | (with_reducible refine Kd.C_alloc ?_ _) | (with_reducible refine Kd.C_drewN ?_ _) | (with_reducible refine Kd.C_drew ?_))); (case side4 => exact (Kd.R_reads' HO_6.out).2.1); rintro e w' ⟨rfl, ⟨nd, rfl⟩⟩))
         go_meet
         case rel => exact ⟨_, ((t228 != t221)), (by first | rfl | (simp; done) | (simp [*]; done)), H', ⟨by have := HJ8.out; first | omega | exact Nat.le_refl _⟩, ⟨ra_ HO_6.out⟩, ⟨ra_ HO_9.out⟩, ⟨by repeat (first | (with_reducible first | exact HB.out | apply below_alloc | apply pw_below_drewN | apply below_drew1) | exact HB.out)⟩⟩
        ·replace c34 := Bool.eq_false_iff.mpr c34
         subst c34
         have H1 : (laws_FnExactPiecesAtCorners.j1 kj8 a0 l1 t220 t221 t227 true) = some r := by rw [if_neg (show ¬ (false = true) by decide)] at H; exact H
         clear H
         have H := H1
         clear H1
         have H' := Aside0.mk H
         clear H
         obtain ⟨Ao37, co37, eo37⟩ := Kd.R_slice HO_9.out
         subst eo37
         obtain ⟨Ao38, co38, eo38⟩ := Kd.R_slice HO_6.out
         subst eo38
         go_wp2_with (first | (go_at_call 21; (with_reducible refine (laws_eqIntS.calls kj8 _ _ t227 _ _ t220 false _ ?side1 ?side2 ?side3 ?side4 A33.out).mono ?_); (case side1 => repeat (first | exact (Kd.R_reads' HO_9.out).2.2 | (with_reducible refine Kd.C_alloc ?_ _) | (with_reducible refine Kd.C_drewN ?_ _) | (with_reducible refine Kd.C_drew ?_))); (case side2 => exact (Kd.R_reads' HO_9.out).2.1); (case side3 => repeat (first | exact (Kd.R_reads' HO_6.out).2.2 | (with_reducible refine Kd.C_alloc ?_ _) | (with_reducible refine Kd.C_drewN ?_ _) | (with_reducible refine Kd.C_drew ?_))); (case side4 => exact (Kd.R_reads' HO_6.out).2.1); rintro e w' ⟨rfl, ⟨nd, rfl⟩⟩))
         go_meet
         case rel => exact ⟨_, (true), (by first | rfl | (simp; done) | (simp [*]; done)), H', ⟨by have := HJ8.out; first | omega | exact Nat.le_refl _⟩, ⟨ra_ HO_6.out⟩, ⟨ra_ HO_9.out⟩, ⟨by repeat (first | (with_reducible first | exact HB.out | apply below_alloc | apply pw_below_drewN | apply below_drew1) | exact HB.out)⟩⟩
      case rest =>
       clear HC27
       try clear c1
       try clear c2
       try clear p2
       try clear c3
       try clear c4
       try clear c4b0
       try clear c8
       try clear c17
       try clear c20
       try clear c21
       try clear c22
       try clear c23
       try clear c25
       try clear c28
       try clear c30
       try clear c32
       try clear c32b0
       try clear c34
       try clear c35
       try clear p2
       obtain ⟨kq, x65_26, rfl, HA, HJ26, HO_6, HO_9, HB⟩ := hcut
       cases kq with
       | zero => exact absurd HA.out (by simp [laws_FnExactPiecesAtCorners.j1])
       | succ kj26 =>
        have H := HA.out
        clear HA
        simp only [laws_FnExactPiecesAtCorners.j1] at H
        by_cases c39 : x65_26 = true
        ·subst c39
         have H1 : (some false) = some r := by rw [if_pos rfl] at H; exact H
         clear H
         have H := H1
         clear H1
         exact absurd (H.trans (congrArg some htrue.out)) (by decide)
        ·replace c39 := Bool.eq_false_iff.mpr c39
         subst c39
         have H1 : ((laws_markIntS.f kj26 t227 1).bind fun bt239 => ((laws_heldIntS.f kj26 bt239.2 1).bind fun t241 => (if t241 < 0 then (some false) else (if t241 = bt239.1 then ((laws_toDiagonalS.f kj26 l1).bind fun t242 => ((impl_PiecesAtCorners.f kj26 a0 t242).bind fun bt245 => ((laws_eqIntS.f kj26 bt245.1 t220).bind fun t249 => (if t249 = true then (laws_FnExactPiecesAtCorners.j2 kj26 bt239.2 bt239.1 (bt245.2 != t221)) else (laws_FnExactPiecesAtCorners.j2 kj26 bt239.2 bt239.1 true))))) else (some false))))) = some r := by rw [if_neg (show ¬ (false = true) by decide)] at H; exact H
         clear H
         have H := H1
         clear H1
         replace H := Option.bind_eq_some_iff.mp H
         obtain ⟨⟨t239, t240⟩, A400, H⟩ := H
         replace H : ((laws_heldIntS.f kj26 t240 1).bind fun t241 => (if t241 < 0 then (some false) else (if t241 = t239 then ((laws_toDiagonalS.f kj26 l1).bind fun t242 => ((impl_PiecesAtCorners.f kj26 a0 t242).bind fun bt245 => ((laws_eqIntS.f kj26 bt245.1 t220).bind fun t249 => (if t249 = true then (laws_FnExactPiecesAtCorners.j2 kj26 t240 t239 (bt245.2 != t221)) else (laws_FnExactPiecesAtCorners.j2 kj26 t240 t239 true))))) else (some false)))) = some r := H
         have A40 := Aside0.mk A400
         clear A400
         replace H := Option.bind_eq_some_iff.mp H
         obtain ⟨t241, A410, H⟩ := H
         replace H : (if t241 < 0 then (some false) else (if t241 = t239 then ((laws_toDiagonalS.f kj26 l1).bind fun t242 => ((impl_PiecesAtCorners.f kj26 a0 t242).bind fun bt245 => ((laws_eqIntS.f kj26 bt245.1 t220).bind fun t249 => (if t249 = true then (laws_FnExactPiecesAtCorners.j2 kj26 t240 t239 (bt245.2 != t221)) else (laws_FnExactPiecesAtCorners.j2 kj26 t240 t239 true))))) else (some false))) = some r := H
         have A41 := Aside0.mk A410
         clear A410
         by_cases c42 : t241 < 0
         ·rw [if_pos c42] at H
          have c42b0 : decide (t241 < 0) = true := decide_eq_true c42
          clear c42
          exact absurd (H.trans (congrArg some htrue.out)) (by decide)
         ·rw [if_neg c42] at H
          have c42b0 : decide (t241 < 0) = false := decide_eq_false c42
          clear c42
          by_cases c43 : t241 = t239
          ·rw [if_pos c43] at H
           have c43b0 : (t241 == t239) = true := beq_iff_eq.mpr c43
           have c43b1 : (t241 != t239) = false := bne_eq_false_iff_eq.mpr c43
           clear c43
           replace H := Option.bind_eq_some_iff.mp H
           obtain ⟨t242, A440, H⟩ := H
           replace H : ((impl_PiecesAtCorners.f kj26 a0 t242).bind fun bt245 => ((laws_eqIntS.f kj26 bt245.1 t220).bind fun t249 => (if t249 = true then (laws_FnExactPiecesAtCorners.j2 kj26 t240 t239 (bt245.2 != t221)) else (laws_FnExactPiecesAtCorners.j2 kj26 t240 t239 true)))) = some r := H
           have A44 := Aside0.mk A440
           clear A440
           replace H := Option.bind_eq_some_iff.mp H
           obtain ⟨⟨t245, t246⟩, A450, H⟩ := H
           replace H : ((laws_eqIntS.f kj26 t245 t220).bind fun t249 => (if t249 = true then (laws_FnExactPiecesAtCorners.j2 kj26 t240 t239 (t246 != t221)) else (laws_FnExactPiecesAtCorners.j2 kj26 t240 t239 true))) = some r := H
           have A45 := Aside0.mk A450
           clear A450
           have HC46 := Aside0.mk H
           clear H
           obtain ⟨Ao47, co47, eo47⟩ := Kd.R_slice HO_9.out
           subst eo47
           go_upto_region 25 with (first | ((with_reducible refine gate_callee (f := 22) rfl ?_); refine goesL_ (some 68) rfl rfl Try.func22 (by kernel_rfl) rfl #[.slice Ao47 t227.length co47, .int .i64 1] rfl amp_ ?_; (with_reducible refine (laws_markIntS.calls kj26 (fun k_ => some k_ = (.slice Ao47 t227.length co47 : Value).ownBlock) (.slice Ao47 t227.length co47) t227 1 t239 t240 w _ ?side1 ?side2 A40.out).mono ?_); (case side1 => repeat (first | (with_reducible first | exact HB.out | apply below_alloc | apply pw_below_drewN | apply below_drew1) | exact HB.out)); (case side2 => exact Kd.R_tight rfl HO_9.out); rintro e w48 ⟨rfl, hy0, hb, hkp⟩; refine ⟨_, rfl, ?_⟩; have n0_ := Aside0.mk (Kd.R_mono (ok' := fun k_ => some k_ ≠ (.slice Ao47 t227.length co47 : Value).ownBlock) (Kd.R_keptB (HO_6.out) hkp (fun k_ hk_ hs_ => (hk_) hs_)) (fun k_ hk_ => hk_.1)); have n1_ := Aside0.mk (Kd.R_reok rfl hy0 (fun k_ e_ => HO_9.out.1 k_ e_)); have n2_ := Aside0.mk (hb); clear HO_6; clear HO_9; clear HB; have HO_6 := n0_; have HO_9 := n1_; have HB := n2_; clear n0_ n1_ n2_; (try clear hb); (try clear hkp); (try clear hy0)) | ((with_reducible refine gate_callee (f := 36) rfl ?_); refine goesL_ (some 71) rfl rfl Try.func36 (by kernel_rfl) rfl #[.slice Ao47 t240.length co47, .int .i64 1] rfl (by (try simp only [List.map_toArray, List.map_cons, List.map_nil]); first | done | (rw [show t240.length = t227.length from (Kd.R_reads' HO_9.out).1.symm] <;> rfl) | rfl | (simp only [List.length_drop, List.length_take]; rfl)) ?_; (with_reducible refine (laws_heldIntS.calls kj26 _ _ t240 1 t241 _ ?side1 ?side2 A41.out).mono ?_); (case side1 => repeat (first | exact (Kd.R_reads' HO_9.out).2.2 | (with_reducible refine Kd.C_alloc ?_ _) | (with_reducible refine Kd.C_drewN ?_ _) | (with_reducible refine Kd.C_drew ?_))); (case side2 => rw [show t240.length = t227.length from (Kd.R_reads' HO_9.out).1.symm]; exact (Kd.R_reads' HO_9.out).2.1); rintro e w' ⟨rfl, ⟨nd, rfl⟩⟩; refine ⟨_, rfl, ?_⟩) | ((with_reducible refine gate_callee (f := 30) rfl ?_); refine goesL_ (some 80) rfl rfl Try.func30 (by kernel_rfl) rfl #[.slice A1 l1.length c1] rfl amp_ ?_; (with_reducible refine (laws_toDiagonalS.calls kj26 _ _ l1 t242 _ ?side1 ?side2 A44.out).mono ?_); (case side1 => repeat (first | exact (Kd.C_below HR1.out blw_) | (with_reducible refine Kd.C_alloc ?_ _) | (with_reducible refine Kd.C_drewN ?_ _) | (with_reducible refine Kd.C_drew ?_))); (case side2 => exact HC1.out); rintro e w49 ⟨v243, rfl, ho0, hb⟩; refine ⟨_, rfl, ?_⟩; have n0_ := Aside0.mk (Kd.R_below (ra_ HO_6.out) hb); have n1_ := Aside0.mk (Kd.R_below (ra_ HO_9.out) hb); have n2_ := Aside0.mk (Kd.R_lower ho0 (below_size blw_)); have n3_ := Aside0.mk (below_step blw_ hb); clear HO_6; clear HO_9; clear HB; have HO_6 := n0_; have HO_9 := n1_; have HO244 := n2_; have HB := n3_; clear n0_ n1_ n2_ n3_; (try clear hb); (try clear hb2); (try clear hk); (try clear hi); (try clear ho0); obtain ⟨Ao50, co50, eo50⟩ := Kd.R_slice HO244.out; subst eo50) | ((with_reducible refine gate_callee (f := 35) rfl ?_); refine goesL_ (some 81) rfl rfl Try.func35 (by kernel_rfl) rfl #[.int .i64 a0, .slice Ao50 t242.length co50] rfl amp_ ?_; (with_reducible refine (impl_PiecesAtCorners.calls kj26 a0 _ _ t242 t245 t246 _ ?side1 ?side2 A45.out).mono ?_); (case side1 => repeat (first | exact (Kd.R_reads' HO244.out).2.2 | (with_reducible refine Kd.C_alloc ?_ _) | (with_reducible refine Kd.C_drewN ?_ _) | (with_reducible refine Kd.C_drew ?_))); (case side2 => exact (Kd.R_reads' HO244.out).2.1); rintro e w51 ⟨v247, rfl, ho0, hb⟩; refine ⟨_, rfl, ?_⟩; have n0_ := Aside0.mk (Kd.R_elder' (ra_ HO_6.out) (Kd.R_base ho0) hb); have n1_ := Aside0.mk (Kd.R_elder' (ra_ HO_9.out) (Kd.R_base ho0) hb); have n2_ := Aside0.mk (Kd.R_below (ra_ HO244.out) hb); have n3_ := Aside0.mk (Kd.R_lower (Kd.R_new' (Kd.R_new' ho0 (Kd.R_lt (ra_ HO_6.out))) (Kd.R_lt (ra_ HO_9.out))) (below_size blw_)); have n4_ := Aside0.mk (below_step blw_ hb); clear HO_6; clear HO_9; clear HO244; clear HB; have HO_6 := n0_; have HO_9 := n1_; have HO244 := n2_; have HO248 := n3_; have HB := n4_; clear n0_ n1_ n2_ n3_ n4_; (try clear hb); (try clear hb2); (try clear hk); (try clear hi); (try clear ho0)))
           (try simp only [Act.put, List.setIfInBounds_toArray, List.set_cons_zero, List.set_cons_succ])
           go_cut [92] (fun v92 wc => ∃ (kq : Nat) (x92_45 : Bool), v92 = .bool x92_45 ∧ Aside0 (laws_FnExactPiecesAtCorners.j2 kq t240 t239 x92_45 = some r) ∧ Aside0 (kq ≤ kj26) ∧ Aside0 (Kd.R (Kd.int .i64) 3 wc w.heap.size (fun _ => True) (.slice Ao47 t227.length co47) t240) ∧ Aside0 (Below w.heap.size w wc))
           case first =>
            have H := HC46.out
            clear HC46
            replace H := Option.bind_eq_some_iff.mp H
            obtain ⟨t249, A520, H⟩ := H
            replace H : (if t249 = true then (laws_FnExactPiecesAtCorners.j2 kj26 t240 t239 (t246 != t221)) else (laws_FnExactPiecesAtCorners.j2 kj26 t240 t239 true)) = some r := H
            have A52 := Aside0.mk A520
            clear A520
            by_cases c53 : t249 = true
            ·subst c53
             have H1 : (laws_FnExactPiecesAtCorners.j2 kj26 t240 t239 (t246 != t221)) = some r := by rw [if_pos rfl] at H; exact H
             clear H
             have H := H1
             clear H1
             have H' := Aside0.mk H
             clear H
             obtain ⟨Ao54, co54, eo54⟩ := Kd.R_slice HO248.out
             subst eo54
             obtain ⟨Ao55, co55, eo55⟩ := Kd.R_slice HO_6.out
             subst eo55
             go_wp2_with (first | ((with_reducible refine gate_callee (f := 21) rfl ?_); refine goesL_ (some 86) rfl rfl Try.func21 (by kernel_rfl) rfl #[.slice Ao54 t245.length co54, .slice Ao55 t220.length co55] rfl amp_ ?_; (with_reducible refine (laws_eqIntS.calls kj26 _ _ t245 _ _ t220 true _ ?side1 ?side2 ?side3 ?side4 A52.out).mono ?_); (case side1 => repeat (first | exact (Kd.R_reads' HO248.out).2.2 | (with_reducible refine Kd.C_alloc ?_ _) | (with_reducible refine Kd.C_drewN ?_ _) | (with_reducible refine Kd.C_drew ?_))); (case side2 => exact (Kd.R_reads' HO248.out).2.1); (case side3 => repeat (first | exact (Kd.R_reads' HO_6.out).2.2 | (with_reducible refine Kd.C_alloc ?_ _) | (with_reducible refine Kd.C_drewN ?_ _) | (with_reducible refine Kd.C_drew ?_))); (case side4 => exact (Kd.R_reads' HO_6.out).2.1); rintro e w' ⟨rfl, ⟨nd, rfl⟩⟩; refine ⟨_, rfl, ?_⟩))
             go_meet
             case rel => exact ⟨_, ((t246 != t221)), (by first | rfl | (simp; done) | (simp [*]; done)), H', ⟨by have := HJ8.out; have := HJ26.out; first | omega | exact Nat.le_refl _⟩, ⟨by (with_reducible repeat (first | apply Kd.R_alloc | apply Kd.R_drewN | apply Kd.R_drew)); exact Kd.R_mono HO_9.out (fun _ hk => trivial)⟩, ⟨by repeat (first | (with_reducible first | exact HB.out | apply below_alloc | apply pw_below_drewN | apply below_drew1) | exact HB.out)⟩⟩
            ·replace c53 := Bool.eq_false_iff.mpr c53
             subst c53
             have H1 : (laws_FnExactPiecesAtCorners.j2 kj26 t240 t239 true) = some r := by rw [if_neg (show ¬ (false = true) by decide)] at H; exact H
             clear H
             have H := H1
             clear H1
             have H' := Aside0.mk H
             clear H
             obtain ⟨Ao56, co56, eo56⟩ := Kd.R_slice HO248.out
             subst eo56
             obtain ⟨Ao57, co57, eo57⟩ := Kd.R_slice HO_6.out
             subst eo57
             go_wp2_with (first | ((with_reducible refine gate_callee (f := 21) rfl ?_); refine goesL_ (some 86) rfl rfl Try.func21 (by kernel_rfl) rfl #[.slice Ao56 t245.length co56, .slice Ao57 t220.length co57] rfl amp_ ?_; (with_reducible refine (laws_eqIntS.calls kj26 _ _ t245 _ _ t220 false _ ?side1 ?side2 ?side3 ?side4 A52.out).mono ?_); (case side1 => repeat (first | exact (Kd.R_reads' HO248.out).2.2 | (with_reducible refine Kd.C_alloc ?_ _) | (with_reducible refine Kd.C_drewN ?_ _) | (with_reducible refine Kd.C_drew ?_))); (case side2 => exact (Kd.R_reads' HO248.out).2.1); (case side3 => repeat (first | exact (Kd.R_reads' HO_6.out).2.2 | (with_reducible refine Kd.C_alloc ?_ _) | (with_reducible refine Kd.C_drewN ?_ _) | (with_reducible refine Kd.C_drew ?_))); (case side4 => exact (Kd.R_reads' HO_6.out).2.1); rintro e w' ⟨rfl, ⟨nd, rfl⟩⟩; refine ⟨_, rfl, ?_⟩))
             go_meet
             case rel => exact ⟨_, (true), (by first | rfl | (simp; done) | (simp [*]; done)), H', ⟨by have := HJ8.out; have := HJ26.out; first | omega | exact Nat.le_refl _⟩, ⟨by (with_reducible repeat (first | apply Kd.R_alloc | apply Kd.R_drewN | apply Kd.R_drew)); exact Kd.R_mono HO_9.out (fun _ hk => trivial)⟩, ⟨by repeat (first | (with_reducible first | exact HB.out | apply below_alloc | apply pw_below_drewN | apply below_drew1) | exact HB.out)⟩⟩
           case rest =>
            clear HC46
            try clear c1
            try clear c2
            try clear p2
            try clear c3
            try clear c4
            try clear c4b0
            try clear c5
            try clear c8
            try clear c17
            try clear c20
            try clear c21
            try clear c22
            try clear c23
            try clear c25
            try clear c28
            try clear c30
            try clear c32
            try clear c32b0
            try clear c34
            try clear c35
            try clear c36
            try clear c39
            try clear c42
            try clear c42b0
            try clear c43
            try clear c43b0
            try clear c43b1
            try clear c53
            try clear p2
            obtain ⟨kq, x92_45, rfl, HA, HJ45, HO_9, HB⟩ := hcut
            have hl9_45 := (Kd.R_reads' HO_9.out).1
            rw [hl9_45] at HO_9
            (try simp only [hl9_45])
            cases kq with
            | zero => exact absurd HA.out (by simp [laws_FnExactPiecesAtCorners.j2])
            | succ kj45 =>
             have H := HA.out
             clear HA
             simp only [laws_FnExactPiecesAtCorners.j2] at H
             by_cases c58 : x92_45 = true
             ·subst c58
              have H1 : (some false) = some r := by rw [if_pos rfl] at H; exact H
              clear H
              have H := H1
              clear H1
              exact absurd (H.trans (congrArg some htrue.out)) (by decide)
             ·replace c58 := Bool.eq_false_iff.mpr c58
              subst c58
              have H1 : ((laws_heldIntS.f kj45 t240 1).bind fun t250 => (if t250 < 0 then (some false) else (if t250 = t239 then (some true) else (some false)))) = some r := by rw [if_neg (show ¬ (false = true) by decide)] at H; exact H
              clear H
              have H := H1
              clear H1
              replace H := Option.bind_eq_some_iff.mp H
              obtain ⟨t250, A590, H⟩ := H
              replace H : (if t250 < 0 then (some false) else (if t250 = t239 then (some true) else (some false))) = some r := H
              have A59 := Aside0.mk A590
              clear A590
              by_cases c60 : t250 < 0
              ·rw [if_pos c60] at H
               have c60b0 : decide (t250 < 0) = true := decide_eq_true c60
               clear c60
               exact absurd (H.trans (congrArg some htrue.out)) (by decide)
              ·rw [if_neg c60] at H
               have c60b0 : decide (t250 < 0) = false := decide_eq_false c60
               clear c60
               by_cases c61 : t250 = t239
               ·rw [if_pos c61] at H
                have c61b0 : (t250 == t239) = true := beq_iff_eq.mpr c61
                have c61b1 : (t250 != t239) = false := bne_eq_false_iff_eq.mpr c61
                clear c61
                obtain rfl := Option.some.inj H
                go_wp2_with (first | ((with_reducible refine gate_callee (f := 36) rfl ?_); refine goesL_ (some 95) rfl rfl Try.func36 (by kernel_rfl) rfl #[.slice Ao47 t240.length co47, .int .i64 1] rfl amp_ ?_; (with_reducible refine (laws_heldIntS.calls kj45 _ _ t240 1 t250 _ ?side1 ?side2 A59.out).mono ?_); (case side1 => repeat (first | exact (Kd.R_reads' HO_9.out).2.2 | (with_reducible refine Kd.C_alloc ?_ _) | (with_reducible refine Kd.C_drewN ?_ _) | (with_reducible refine Kd.C_drew ?_))); (case side2 => exact (Kd.R_reads' HO_9.out).2.1); rintro e w' ⟨rfl, ⟨nd, rfl⟩⟩; refine ⟨_, rfl, ?_⟩))
                go_ret
                exact ⟨by first | rfl | (simp [errW_none, errW_some] <;> rfl) | (simp [*, errW_none, errW_some] <;> rfl), by repeat (first | (with_reducible first | exact HB.out | apply below_alloc | apply pw_below_drewN | apply below_drew1) | exact HB.out)⟩
               ·rw [if_neg c61] at H
                have c61b0 : (t250 == t239) = false := beq_eq_false_iff_ne.mpr c61
                have c61b1 : (t250 != t239) = true := bne_iff_ne.mpr c61
                exact absurd (H.trans (congrArg some htrue.out)) (by decide)
          ·rw [if_neg c43] at H
           have c43b0 : (t241 == t239) = false := beq_eq_false_iff_ne.mpr c43
           have c43b1 : (t241 != t239) = true := bne_iff_ne.mpr c43
           exact absurd (H.trans (congrArg some htrue.out)) (by decide)
     ·replace c25 := Bool.eq_false_iff.mpr c25
      subst c25
      have H1 : (some false) = some r := by rw [if_neg (show ¬ (false = true) by decide)] at H; exact H
      clear H
      have H := H1
      clear H1
      exact absurd (H.trans (congrArg some htrue.out)) (by decide)

end Go.Proofs.Ytnikefebkcminaa.PFnExactPiecesAtCorners
