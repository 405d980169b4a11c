-- WRITTEN BY A PROGRAM OF THIS WORK (wip/tools/ppatch.py) for this claim.
import Derived.Test.YtgblginphicacaaGreatDoorPFnExactCountByFlipsx0
import Derived.Test.YtgblginphicacaaGreatDoorPFnExactCountByFlipsx2
import Derived.Test.YtgblginphicacaaGreatDoorPFnExactCountByFlipsx10
import Derived.Test.YtgblginphicacaaGreatDoorPFnExactCountByFlipsx19
import Derived.Test.YtgblginphicacaaGreatDoorPFnExactCountByFlipsx20
namespace Go.Proofs.YtgblginphicacaaGreatDoor.PFnExactCountByFlips
open Go.RowKit Go.Proofs.YtgblginphicacaaGreatDoorW.PrintWords Go.Proofs.YtgblginphicacaaGreatDoorW.PrintLast Go.Proofs.YtgblginphicacaaGreatDoorW.PrintMore
attribute [local go_sem] max2_int min2_int max_two min_two max_three min_three max_four min_four   -- for this text's walks alone
set_option linter.unusedVariables false
set_option linter.unusedSimpArgs false

/-! ### laws_FnExactCountByFlips: function 3 -/
mutual
def laws_FnExactCountByFlips.j0 : Nat → Int → List (S40) → List Int → Bool → List (S38) → List Int → Bool → Bool → Option (Bool)
 | 0, _, _, _, _, _, _, _, _ => none
 | k + 1, x0, x1, x6, x7, x8, x9, x10, x44 => if x44 = true then (some false) else ((laws_toDiagonalS.f k x1).bind fun t384 => ((laws_eqDiagonalS.f k x8 t384).bind fun t387 => (if t387 = true then ((laws_markDiagonalS.f k x8 1).bind fun bt388 => (if bt388.1 < 0 then (laws_FnExactCountByFlips.j1 k x0 x1 x6 x7 x9 true) else ((laws_eqIntS.f k x9 x6).bind fun t390 => (if t390 = true then (laws_FnExactCountByFlips.j1 k x0 x1 x6 x7 x9 (x10 != x7)) else (laws_FnExactCountByFlips.j1 k x0 x1 x6 x7 x9 true))))) else (some false))))
def laws_FnExactCountByFlips.j1 : Nat → Int → List (S40) → List Int → Bool → List Int → Bool → Option (Bool)
 | 0, _, _, _, _, _, _ => none
 | k + 1, x0, x1, x6, x7, x9, x65 => if x65 = true then (some false) else ((laws_markIntS.f k x9 1).bind fun bt391 => ((laws_heldIntS.f k bt391.2 1).bind fun t393 => (if t393 < 0 then (some false) else (if t393 = bt391.1 then ((laws_toDiagonalS.f k x1).bind fun t394 => ((impl_CountByFlips.f k x0 t394).bind fun bt397 => ((laws_eqIntS.f k bt397.1 x6).bind fun t401 => (if t401 = true then (laws_FnExactCountByFlips.j2 k bt391.2 bt391.1 (bt397.2 != x7)) else (laws_FnExactCountByFlips.j2 k bt391.2 bt391.1 true))))) else (some false)))))
def laws_FnExactCountByFlips.j2 : Nat → List Int → Int → Bool → Option (Bool)
 | 0, _, _, _ => none
 | k + 1, x9, x12, x92 => if x92 = true then (some false) else ((laws_heldIntS.f k x9 1).bind fun t402 => (if t402 < 0 then (some false) else (if t402 = x12 then (some true) else (some false))))
end
def laws_FnExactCountByFlips.f (k : Nat) (a0 : Int) (l1 : List (S40)) : Option (Bool) := (laws_szDiagonalS.f l1 1048576).bind fun t368 => (if t368 < 0 then (some true) else ((laws_toDiagonalS.f k l1).bind fun t369 => ((spec_CountByFlips.f k a0 t369).bind fun bt372 => ((laws_toDiagonalS.f k l1).bind fun t376 => ((impl_CountByFlips.f k a0 t376).bind fun bt379 => ((laws_eqIntS.f k bt379.1 bt372.1).bind fun t383 => (if t383 = true then (laws_FnExactCountByFlips.j0 k a0 l1 bt372.1 bt372.2 t376 bt379.1 bt379.2 (bt379.2 != bt372.2)) else (laws_FnExactCountByFlips.j0 k a0 l1 bt372.1 bt372.2 t376 bt379.1 bt379.2 true))))))))
theorem laws_FnExactCountByFlips.mono_l : ∀ k, (∀ y0 y1 y2 y3 y4 y5 y6 y7, LeO (laws_FnExactCountByFlips.j0 k y0 y1 y2 y3 y4 y5 y6 y7) (laws_FnExactCountByFlips.j0 (k + 1) y0 y1 y2 y3 y4 y5 y6 y7)) ∧ (∀ y0 y1 y2 y3 y4 y5, LeO (laws_FnExactCountByFlips.j1 k y0 y1 y2 y3 y4 y5) (laws_FnExactCountByFlips.j1 (k + 1) y0 y1 y2 y3 y4 y5)) ∧ (∀ y0 y1 y2, LeO (laws_FnExactCountByFlips.j2 k y0 y1 y2) (laws_FnExactCountByFlips.j2 (k + 1) y0 y1 y2))
 | 0 => ⟨fun _ _ _ _ _ _ _ _ r h => by simp [laws_FnExactCountByFlips.j0] at h, fun _ _ _ _ _ _ r h => by simp [laws_FnExactCountByFlips.j1] at h, fun _ _ _ r h => by simp [laws_FnExactCountByFlips.j2] at h⟩
 | k + 1 => by
  obtain ⟨ih0, ih1, ih2⟩ := laws_FnExactCountByFlips.mono_l k
  refine ⟨?_, ?_, ?_⟩
  ·intro y0 y1 y2 y3 y4 y5 y6 y7
   unfold laws_FnExactCountByFlips.j0
   repeat' first
   | (with_reducible exact ih0 _ _ _ _ _ _ _ _)
   | (with_reducible exact ih1 _ _ _ _ _ _)
   | (with_reducible exact ih2 _ _ _)
   | (with_reducible exact impl_CountByFlips.mono _ _ _)
   | (with_reducible exact laws_eqDiagonalS.mono _ _ _)
   | (with_reducible exact laws_eqIntS.mono _ _ _)
   | (with_reducible exact laws_heldIntS.mono _ _ _)
   | (with_reducible exact laws_markDiagonalS.mono _ _ _)
   | (with_reducible exact laws_markIntS.mono _ _ _)
   | (with_reducible exact laws_toDiagonalS.mono _ _)
   | (with_reducible exact spec_CountByFlips.mono _ _ _)
   | (with_reducible exact LeO.refl _)
   | (with_reducible exact LeO.none _)
   | (with_reducible refine LeO.ite ?_ ?_)
   | (with_reducible refine LeO.bind ?_ (fun _ => ?_))
   | exact ih0 _ _ _ _ _ _ _ _
   | exact ih1 _ _ _ _ _ _
   | exact ih2 _ _ _
   | exact impl_CountByFlips.mono _ _ _
   | exact laws_eqDiagonalS.mono _ _ _
   | exact laws_eqIntS.mono _ _ _
   | exact laws_heldIntS.mono _ _ _
   | exact laws_markDiagonalS.mono _ _ _
   | exact laws_markIntS.mono _ _ _
   | exact laws_toDiagonalS.mono _ _
   | exact spec_CountByFlips.mono _ _ _
   | exact LeO.none _
   | refine LeO.ite ?_ ?_
   | refine LeO.bind ?_ (fun _ => ?_)
  ·intro y0 y1 y2 y3 y4 y5
   unfold laws_FnExactCountByFlips.j1
   repeat' first
   | (with_reducible exact ih0 _ _ _ _ _ _ _ _)
   | (with_reducible exact ih1 _ _ _ _ _ _)
   | (with_reducible exact ih2 _ _ _)
   | (with_reducible exact impl_CountByFlips.mono _ _ _)
   | (with_reducible exact laws_eqDiagonalS.mono _ _ _)
   | (with_reducible exact laws_eqIntS.mono _ _ _)
   | (with_reducible exact laws_heldIntS.mono _ _ _)
   | (with_reducible exact laws_markDiagonalS.mono _ _ _)
   | (with_reducible exact laws_markIntS.mono _ _ _)
   | (with_reducible exact laws_toDiagonalS.mono _ _)
   | (with_reducible exact spec_CountByFlips.mono _ _ _)
   | (with_reducible exact LeO.refl _)
   | (with_reducible exact LeO.none _)
   | (with_reducible refine LeO.ite ?_ ?_)
   | (with_reducible refine LeO.bind ?_ (fun _ => ?_))
   | exact ih0 _ _ _ _ _ _ _ _
   | exact ih1 _ _ _ _ _ _
   | exact ih2 _ _ _
   | exact impl_CountByFlips.mono _ _ _
   | exact laws_eqDiagonalS.mono _ _ _
   | exact laws_eqIntS.mono _ _ _
   | exact laws_heldIntS.mono _ _ _
   | exact laws_markDiagonalS.mono _ _ _
   | exact laws_markIntS.mono _ _ _
   | exact laws_toDiagonalS.mono _ _
   | exact spec_CountByFlips.mono _ _ _
   | exact LeO.none _
   | refine LeO.ite ?_ ?_
   | refine LeO.bind ?_ (fun _ => ?_)
  ·intro y0 y1 y2
   unfold laws_FnExactCountByFlips.j2
   repeat' first
   | (with_reducible exact ih0 _ _ _ _ _ _ _ _)
   | (with_reducible exact ih1 _ _ _ _ _ _)
   | (with_reducible exact ih2 _ _ _)
   | (with_reducible exact impl_CountByFlips.mono _ _ _)
   | (with_reducible exact laws_eqDiagonalS.mono _ _ _)
   | (with_reducible exact laws_eqIntS.mono _ _ _)
   | (with_reducible exact laws_heldIntS.mono _ _ _)
   | (with_reducible exact laws_markDiagonalS.mono _ _ _)
   | (with_reducible exact laws_markIntS.mono _ _ _)
   | (with_reducible exact laws_toDiagonalS.mono _ _)
   | (with_reducible exact spec_CountByFlips.mono _ _ _)
   | (with_reducible exact LeO.refl _)
   | (with_reducible exact LeO.none _)
   | (with_reducible refine LeO.ite ?_ ?_)
   | (with_reducible refine LeO.bind ?_ (fun _ => ?_))
   | exact ih0 _ _ _ _ _ _ _ _
   | exact ih1 _ _ _ _ _ _
   | exact ih2 _ _ _
   | exact impl_CountByFlips.mono _ _ _
   | exact laws_eqDiagonalS.mono _ _ _
   | exact laws_eqIntS.mono _ _ _
   | exact laws_heldIntS.mono _ _ _
   | exact laws_markDiagonalS.mono _ _ _
   | exact laws_markIntS.mono _ _ _
   | exact laws_toDiagonalS.mono _ _
   | exact spec_CountByFlips.mono _ _ _
   | exact LeO.none _
   | refine LeO.ite ?_ ?_
   | refine LeO.bind ?_ (fun _ => ?_)
theorem laws_FnExactCountByFlips.mono : ∀ a0 a1 k, LeO (laws_FnExactCountByFlips.f k a0 a1) (laws_FnExactCountByFlips.f (k + 1) a0 a1) := by
 intro a0 a1 k
 obtain ⟨ih0, ih1, ih2⟩ := laws_FnExactCountByFlips.mono_l k
 unfold laws_FnExactCountByFlips.f
 repeat' first
   | (with_reducible exact ih0 _ _ _ _ _ _ _ _)
   | (with_reducible exact ih1 _ _ _ _ _ _)
   | (with_reducible exact ih2 _ _ _)
   | (with_reducible exact impl_CountByFlips.mono _ _ _)
   | (with_reducible exact laws_eqDiagonalS.mono _ _ _)
   | (with_reducible exact laws_eqIntS.mono _ _ _)
   | (with_reducible exact laws_heldIntS.mono _ _ _)
   | (with_reducible exact laws_markDiagonalS.mono _ _ _)
   | (with_reducible exact laws_markIntS.mono _ _ _)
   | (with_reducible exact laws_toDiagonalS.mono _ _)
   | (with_reducible exact spec_CountByFlips.mono _ _ _)
   | (with_reducible exact LeO.refl _)
   | (with_reducible exact LeO.none _)
   | (with_reducible refine LeO.ite ?_ ?_)
   | (with_reducible refine LeO.bind ?_ (fun _ => ?_))
   | exact ih0 _ _ _ _ _ _ _ _
   | exact ih1 _ _ _ _ _ _
   | exact ih2 _ _ _
   | exact impl_CountByFlips.mono _ _ _
   | exact laws_eqDiagonalS.mono _ _ _
   | exact laws_eqIntS.mono _ _ _
   | exact laws_heldIntS.mono _ _ _
   | exact laws_markDiagonalS.mono _ _ _
   | exact laws_markIntS.mono _ _ _
   | exact laws_toDiagonalS.mono _ _
   | exact spec_CountByFlips.mono _ _ _
   | exact LeO.none _
   | refine LeO.ite ?_ ?_
   | refine LeO.bind ?_ (fun _ => ?_)
set_option maxHeartbeats 8000000 in
set_option maxRecDepth 100000 in
theorem laws_FnExactCountByFlips.calls (k : Nat) (a0 : Int) (A1 : Option Addr) (c1 : Nat) (l1 : List (S40)) (r : Bool) (w : World) (hr1 : Kd.C k40 w A1 l1.length l1) (hc1 : l1.length ≤ c1) (h : laws_FnExactCountByFlips.f k a0 l1 = some r) (htab : TabOk w) (htrue : Aside0 (r = true) := by exact ⟨rfl⟩) :
  Calls Tryz.prog 3 #[.int .i64 a0, .slice A1 l1.length c1] w fun e w' => e = .returned (.bool r) ∧ Below w.heap.size w w' := by
 have HR1 := Aside0.mk hr1
 have HC1 := Aside0.mk hc1
 clear hr1 hc1
 have HB := Aside0.mk (Below.refl w.heap.size w)
 have HTAB := Aside0.mk htab
 clear htab
 have H : ((laws_szDiagonalS.f l1 1048576).bind fun t368 => (if t368 < 0 then (some true) else ((laws_toDiagonalS.f k l1).bind fun t369 => ((spec_CountByFlips.f k a0 t369).bind fun bt372 => ((laws_toDiagonalS.f k l1).bind fun t376 => ((impl_CountByFlips.f k a0 t376).bind fun bt379 => ((laws_eqIntS.f k bt379.1 bt372.1).bind fun t383 => (if t383 = true then (laws_FnExactCountByFlips.j0 k a0 l1 bt372.1 bt372.2 t376 bt379.1 bt379.2 (bt379.2 != bt372.2)) else (laws_FnExactCountByFlips.j0 k a0 l1 bt372.1 bt372.2 t376 bt379.1 bt379.2 true))))))))) = some r := h
 clear h
 replace H := Option.bind_eq_some_iff.mp H
 obtain ⟨t368, A30, H⟩ := H
 replace H : (if t368 < 0 then (some true) else ((laws_toDiagonalS.f k l1).bind fun t369 => ((spec_CountByFlips.f k a0 t369).bind fun bt372 => ((laws_toDiagonalS.f k l1).bind fun t376 => ((impl_CountByFlips.f k a0 t376).bind fun bt379 => ((laws_eqIntS.f k bt379.1 bt372.1).bind fun t383 => (if t383 = true then (laws_FnExactCountByFlips.j0 k a0 l1 bt372.1 bt372.2 t376 bt379.1 bt379.2 (bt379.2 != bt372.2)) else (laws_FnExactCountByFlips.j0 k a0 l1 bt372.1 bt372.2 t376 bt379.1 bt379.2 true)))))))) = some r := H
 have A3 := Aside0.mk A30
 clear A30
 by_cases c4 : t368 < 0
 ·rw [if_pos c4] at H
  have c4b0 : decide (t368 < 0) = true := decide_eq_true c4
  clear c4
  obtain rfl := Option.some.inj H
  go_enter Tryz.func3, Tryz.ntmps3
  go_wp2_with (first | ((with_reducible refine gate_callee (f := 4) rfl ?_); refine goesL_ (some 18) rfl rfl Tryz.func4 (by kernel_rfl) rfl #[.slice A1 l1.length c1, .int .i64 1048576] rfl amp_ ?_; (with_reducible refine (laws_szDiagonalS.calls _ _ l1 1048576 t368 _ ?side1 ?side2 A3.out).mono ?_); (case side1 => exact cd_ HR1.out); (case side2 => exact HC1.out); rintro e w' ⟨rfl, ⟨nd, rfl⟩⟩; refine ⟨_, rfl, ?_⟩))
  go_ret
  exact er_
 ·rw [if_neg c4] at H
  have c4b0 : decide (t368 < 0) = false := decide_eq_false c4
  clear c4
  replace H := Option.bind_eq_some_iff.mp H
  obtain ⟨t369, A50, H⟩ := H
  replace H : ((spec_CountByFlips.f k a0 t369).bind fun bt372 => ((laws_toDiagonalS.f k l1).bind fun t376 => ((impl_CountByFlips.f k a0 t376).bind fun bt379 => ((laws_eqIntS.f k bt379.1 bt372.1).bind fun t383 => (if t383 = true then (laws_FnExactCountByFlips.j0 k a0 l1 bt372.1 bt372.2 t376 bt379.1 bt379.2 (bt379.2 != bt372.2)) else (laws_FnExactCountByFlips.j0 k a0 l1 bt372.1 bt372.2 t376 bt379.1 bt379.2 true)))))) = some r := H
  have A5 := Aside0.mk A50
  clear A50
  replace H := Option.bind_eq_some_iff.mp H
  obtain ⟨⟨t372, t373⟩, A60, H⟩ := H
  replace H : ((laws_toDiagonalS.f k l1).bind fun t376 => ((impl_CountByFlips.f k a0 t376).bind fun bt379 => ((laws_eqIntS.f k bt379.1 t372).bind fun t383 => (if t383 = true then (laws_FnExactCountByFlips.j0 k a0 l1 t372 t373 t376 bt379.1 bt379.2 (bt379.2 != t373)) else (laws_FnExactCountByFlips.j0 k a0 l1 t372 t373 t376 bt379.1 bt379.2 true))))) = some r := H
  have A6 := Aside0.mk A60
  clear A60
  replace H := Option.bind_eq_some_iff.mp H
  obtain ⟨t376, A70, H⟩ := H
  replace H : ((impl_CountByFlips.f k a0 t376).bind fun bt379 => ((laws_eqIntS.f k bt379.1 t372).bind fun t383 => (if t383 = true then (laws_FnExactCountByFlips.j0 k a0 l1 t372 t373 t376 bt379.1 bt379.2 (bt379.2 != t373)) else (laws_FnExactCountByFlips.j0 k a0 l1 t372 t373 t376 bt379.1 bt379.2 true)))) = some r := H
  have A7 := Aside0.mk A70
  clear A70
  replace H := Option.bind_eq_some_iff.mp H
  obtain ⟨⟨t379, t380⟩, A80, H⟩ := H
  replace H : ((laws_eqIntS.f k t379 t372).bind fun t383 => (if t383 = true then (laws_FnExactCountByFlips.j0 k a0 l1 t372 t373 t376 t379 t380 (t380 != t373)) else (laws_FnExactCountByFlips.j0 k a0 l1 t372 t373 t376 t379 t380 true))) = some r := H
  have A8 := Aside0.mk A80
  clear A80
  have HC9 := Aside0.mk H
  clear H
  go_enter Tryz.func3, Tryz.ntmps3
  go_upto_region 8 with (first | ((with_reducible refine gate_callee (f := 4) rfl ?_); refine goesL_ (some 18) rfl rfl Tryz.func4 (by kernel_rfl) rfl #[.slice A1 l1.length c1, .int .i64 1048576] rfl amp_ ?_; (with_reducible refine (laws_szDiagonalS.calls _ _ l1 1048576 t368 _ ?side1 ?side2 A3.out).mono ?_); (case side1 => exact cd_ HR1.out); (case side2 => exact HC1.out); rintro e w' ⟨rfl, ⟨nd, rfl⟩⟩; refine ⟨_, rfl, ?_⟩) | ((with_reducible refine gate_callee (f := 6) rfl ?_); refine goesL_ (some 24) rfl rfl Tryz.func6 (by kernel_rfl) rfl #[.slice A1 l1.length c1] rfl amp_ ?_; (with_reducible refine (laws_toDiagonalS.calls k _ _ l1 t369 _ ?side1 ?side2 A5.out).mono ?_); (case side1 => exact cd_ HR1.out); (case side2 => exact HC1.out); rintro e w10 ⟨v370, rfl, ho0, hb⟩; refine ⟨_, rfl, ?_⟩; have HO371 := Aside0.mk (Kd.R_lower ho0 (below_size blw_)); replace HB := Aside0.mk (below_step blw_ hb); (try clear hb); (try clear hb2); (try clear hk); (try clear hi); (try clear ho0); obtain ⟨Ao11, co11, eo11⟩ := Kd.R_slice HO371.out; subst eo11) | ((with_reducible refine gate_callee (f := 5) rfl ?_); refine goesL_ (some 25) rfl rfl Tryz.func5 (by kernel_rfl) rfl #[.int .i64 a0, .slice Ao11 t369.length co11] rfl amp_ ?_; (with_reducible refine (spec_CountByFlips.calls k a0 _ _ t369 t372 t373 _ ?side1 ?side2 A6.out).mono ?_); (case side1 => exact cd_ (Kd.R_reads' HO371.out).2.2); (case side2 => exact (Kd.R_reads' HO371.out).2.1); rintro e w12 ⟨v374, rfl, ho0, hb⟩; refine ⟨_, rfl, ?_⟩; have HO375 := Aside0.mk (Kd.R_lower ho0 (below_size blw_)); replace HO371 := Aside0.mk (Kd.R_below (ra_ HO371.out) hb); replace HB := Aside0.mk (below_step blw_ hb); (try clear hb); (try clear hb2); (try clear hk); (try clear hi); (try clear ho0)) | ((with_reducible refine gate_callee (f := 6) rfl ?_); refine goesL_ (some 29) rfl rfl Tryz.func6 (by kernel_rfl) rfl #[.slice A1 l1.length c1] rfl amp_ ?_; (with_reducible refine (laws_toDiagonalS.calls k _ _ l1 t376 _ ?side1 ?side2 A7.out).mono ?_); (case side1 => exact cd_ (Kd.C_below HR1.out HB.out)); (case side2 => exact HC1.out); rintro e w13 ⟨v377, rfl, ho0, hb⟩; refine ⟨_, rfl, ?_⟩; have HO378 := Aside0.mk (Kd.R_lower (Kd.R_new' ho0 (Kd.R_lt (ra_ HO371.out))) (below_size blw_)); replace HO371 := Aside0.mk (Kd.R_elder' (ra_ HO371.out) (Kd.R_base ho0) hb); replace HO375 := Aside0.mk (Kd.R_below (ra_ HO375.out) hb); replace HB := Aside0.mk (below_step blw_ hb); (try clear hb); (try clear hb2); (try clear hk); (try clear hi); (try clear ho0); obtain ⟨Ao14, co14, eo14⟩ := Kd.R_slice HO378.out; subst eo14) | ((with_reducible refine gate_callee (f := 7) rfl ?_); refine goesL_ (some 33) rfl rfl Tryz.func7 (by kernel_rfl) rfl #[.int .i64 a0, .slice Ao14 t376.length co14] rfl amp_ ?_; (with_reducible refine (impl_CountByFlips.calls k a0 _ _ t376 t379 t380 _ ?side1 ?side2 A8.out (HTAB.out.below blw_)).mono ?_); (case side1 => exact cd_ (Kd.R_reads' HO378.out).2.2); (case side2 => exact (Kd.R_reads' HO378.out).2.1); rintro e w15 ⟨v381, rfl, ho0, hb⟩; refine ⟨_, rfl, ?_⟩; have HO382 := Aside0.mk (Kd.R_lower (Kd.R_new' ho0 (Kd.R_lt (ra_ HO375.out))) (below_size blw_)); replace HO371 := Aside0.mk (Kd.R_below (ra_ HO371.out) hb); replace HO375 := Aside0.mk (Kd.R_elder' (ra_ HO375.out) (Kd.R_base ho0) hb); replace HO378 := Aside0.mk (Kd.R_below (ra_ HO378.out) hb); replace HB := Aside0.mk (below_step blw_ hb); (try clear hb); (try clear hb2); (try clear hk); (try clear hi); (try clear ho0)))
  (try simp only [Act.put, List.setIfInBounds_toArray, List.set_cons_zero, List.set_cons_succ])
  go_cut [44] (fun v44 wc => ∃ (kq : Nat) (x44_8 : Bool), v44 = .bool x44_8 ∧ Aside0 (laws_FnExactCountByFlips.j0 kq a0 l1 t372 t373 t376 t379 t380 x44_8 = some r) ∧ Aside0 (kq ≤ k) ∧ Aside0 (Kd.R (Kd.int .i64) 3 wc w.heap.size (fun k_ => some k_ ≠ (v381 : Value).ownBlock) v374 t372) ∧ Aside0 (Kd.R k38 38 wc w.heap.size (fun _ => True) (.slice Ao14 t376.length co14) t376) ∧ Aside0 (Kd.R (Kd.int .i64) 3 wc w.heap.size (fun k_ => some k_ ≠ (v374 : Value).ownBlock) v381 t379) ∧ Aside0 (Below w.heap.size w wc))
  case first =>
   have H := HC9.out
   clear HC9
   replace H := Option.bind_eq_some_iff.mp H
   obtain ⟨t383, A160, H⟩ := H
   replace H : (if t383 = true then (laws_FnExactCountByFlips.j0 k a0 l1 t372 t373 t376 t379 t380 (t380 != t373)) else (laws_FnExactCountByFlips.j0 k a0 l1 t372 t373 t376 t379 t380 true)) = some r := H
   have A16 := Aside0.mk A160
   clear A160
   by_cases c17 : t383 = true
   ·subst c17
    replace H : (laws_FnExactCountByFlips.j0 k a0 l1 t372 t373 t376 t379 t380 (t380 != t373)) = some r := by rw [if_pos rfl] at H; exact H
    have H' := Aside0.mk H
    clear H
    obtain ⟨Ao18, co18, eo18⟩ := Kd.R_slice HO382.out
    subst eo18
    obtain ⟨Ao19, co19, eo19⟩ := Kd.R_slice HO375.out
    subst eo19
    go_wp2_with (first | ((with_reducible refine gate_callee (f := 8) rfl ?_); refine goesL_ (some 38) rfl rfl Tryz.func8 (by kernel_rfl) rfl #[.slice Ao18 t379.length co18, .slice Ao19 t372.length co19] rfl amp_ ?_; (with_reducible refine (laws_eqIntS.calls k _ _ t379 _ _ t372 true _ ?side1 ?side2 ?side3 ?side4 A16.out).mono ?_); (case side1 => exact cd_ (Kd.R_reads' HO382.out).2.2); (case side2 => exact (Kd.R_reads' HO382.out).2.1); (case side3 => exact cd_ (Kd.R_reads' HO375.out).2.2); (case side4 => exact (Kd.R_reads' HO375.out).2.1); rintro e w' ⟨rfl, ⟨nd, rfl⟩⟩; refine ⟨_, rfl, ?_⟩))
    go_meet
    case rel => exact ⟨_, ((t380 != t373)), rsd_, H', ⟨by first | omega | exact Nat.le_refl _⟩, ⟨by (with_reducible repeat (first | apply Kd.R_alloc | apply Kd.R_drewN | apply Kd.R_drew)); exact Kd.R_mono HO375.out (fun _ hk => hk.2)⟩, ⟨by (with_reducible repeat (first | apply Kd.R_alloc | apply Kd.R_drewN | apply Kd.R_drew)); exact Kd.R_mono HO378.out (fun _ hk => trivial)⟩, ⟨by (with_reducible repeat (first | apply Kd.R_alloc | apply Kd.R_drewN | apply Kd.R_drew)); exact Kd.R_mono HO382.out (fun _ hk => hk.2)⟩, ⟨blw_⟩⟩
   ·replace c17 := Bool.eq_false_iff.mpr c17
    subst c17
    replace H : (laws_FnExactCountByFlips.j0 k a0 l1 t372 t373 t376 t379 t380 true) = some r := by rw [if_neg (show ¬ (false = true) by decide)] at H; exact H
    have H' := Aside0.mk H
    clear H
    obtain ⟨Ao20, co20, eo20⟩ := Kd.R_slice HO382.out
    subst eo20
    obtain ⟨Ao21, co21, eo21⟩ := Kd.R_slice HO375.out
    subst eo21
    go_wp2_with (first | ((with_reducible refine gate_callee (f := 8) rfl ?_); refine goesL_ (some 38) rfl rfl Tryz.func8 (by kernel_rfl) rfl #[.slice Ao20 t379.length co20, .slice Ao21 t372.length co21] rfl amp_ ?_; (with_reducible refine (laws_eqIntS.calls k _ _ t379 _ _ t372 false _ ?side1 ?side2 ?side3 ?side4 A16.out).mono ?_); (case side1 => exact cd_ (Kd.R_reads' HO382.out).2.2); (case side2 => exact (Kd.R_reads' HO382.out).2.1); (case side3 => exact cd_ (Kd.R_reads' HO375.out).2.2); (case side4 => exact (Kd.R_reads' HO375.out).2.1); rintro e w' ⟨rfl, ⟨nd, rfl⟩⟩; refine ⟨_, rfl, ?_⟩))
    go_meet
    case rel => exact ⟨_, (true), rsd_, H', ⟨by first | omega | exact Nat.le_refl _⟩, ⟨by (with_reducible repeat (first | apply Kd.R_alloc | apply Kd.R_drewN | apply Kd.R_drew)); exact Kd.R_mono HO375.out (fun _ hk => hk.2)⟩, ⟨by (with_reducible repeat (first | apply Kd.R_alloc | apply Kd.R_drewN | apply Kd.R_drew)); exact Kd.R_mono HO378.out (fun _ hk => trivial)⟩, ⟨by (with_reducible repeat (first | apply Kd.R_alloc | apply Kd.R_drewN | apply Kd.R_drew)); exact Kd.R_mono HO382.out (fun _ hk => hk.2)⟩, ⟨blw_⟩⟩
  case rest =>
   clear HC9
   try clear c1
   try clear p2
   try clear c3
   try clear c4
   try clear c4b0
   try clear c5
   try clear c6
   try clear c7
   try clear c8
   try clear c17
   obtain ⟨kq, x44_8, rfl, HA, HJ8, HO_6, HO_8, HO_9, HB⟩ := hcut
   cases kq with
   | zero => exact absurd HA.out (by simp [laws_FnExactCountByFlips.j0])
   | succ kj8 =>
    have H := HA.out
    clear HA
    simp only [laws_FnExactCountByFlips.j0] at H
    by_cases c22 : x44_8 = true
    ·subst c22
     replace H : (some false) = some r := by rw [if_pos rfl] at H; exact H
     exact absurd (H.trans (congrArg some htrue.out)) (by decide)
    ·replace c22 := Bool.eq_false_iff.mpr c22
     subst c22
     replace H : ((laws_toDiagonalS.f kj8 l1).bind fun t384 => ((laws_eqDiagonalS.f kj8 t376 t384).bind fun t387 => (if t387 = true then ((laws_markDiagonalS.f kj8 t376 1).bind fun bt388 => (if bt388.1 < 0 then (laws_FnExactCountByFlips.j1 kj8 a0 l1 t372 t373 t379 true) else ((laws_eqIntS.f kj8 t379 t372).bind fun t390 => (if t390 = true then (laws_FnExactCountByFlips.j1 kj8 a0 l1 t372 t373 t379 (t380 != t373)) else (laws_FnExactCountByFlips.j1 kj8 a0 l1 t372 t373 t379 true))))) else (some false)))) = some r := by rw [if_neg (show ¬ (false = true) by decide)] at H; exact H
     replace H := Option.bind_eq_some_iff.mp H
     obtain ⟨t384, A230, H⟩ := H
     replace H : ((laws_eqDiagonalS.f kj8 t376 t384).bind fun t387 => (if t387 = true then ((laws_markDiagonalS.f kj8 t376 1).bind fun bt388 => (if bt388.1 < 0 then (laws_FnExactCountByFlips.j1 kj8 a0 l1 t372 t373 t379 true) else ((laws_eqIntS.f kj8 t379 t372).bind fun t390 => (if t390 = true then (laws_FnExactCountByFlips.j1 kj8 a0 l1 t372 t373 t379 (t380 != t373)) else (laws_FnExactCountByFlips.j1 kj8 a0 l1 t372 t373 t379 true))))) else (some false))) = some r := H
     have A23 := Aside0.mk A230
     clear A230
     replace H := Option.bind_eq_some_iff.mp H
     obtain ⟨t387, A240, H⟩ := H
     replace H : (if t387 = true then ((laws_markDiagonalS.f kj8 t376 1).bind fun bt388 => (if bt388.1 < 0 then (laws_FnExactCountByFlips.j1 kj8 a0 l1 t372 t373 t379 true) else ((laws_eqIntS.f kj8 t379 t372).bind fun t390 => (if t390 = true then (laws_FnExactCountByFlips.j1 kj8 a0 l1 t372 t373 t379 (t380 != t373)) else (laws_FnExactCountByFlips.j1 kj8 a0 l1 t372 t373 t379 true))))) else (some false)) = some r := H
     have A24 := Aside0.mk A240
     clear A240
     by_cases c25 : t387 = true
     ·subst c25
      replace H : ((laws_markDiagonalS.f kj8 t376 1).bind fun bt388 => (if bt388.1 < 0 then (laws_FnExactCountByFlips.j1 kj8 a0 l1 t372 t373 t379 true) else ((laws_eqIntS.f kj8 t379 t372).bind fun t390 => (if t390 = true then (laws_FnExactCountByFlips.j1 kj8 a0 l1 t372 t373 t379 (t380 != t373)) else (laws_FnExactCountByFlips.j1 kj8 a0 l1 t372 t373 t379 true))))) = some r := by rw [if_pos rfl] at H; exact H
      replace H := Option.bind_eq_some_iff.mp H
      obtain ⟨⟨t388, t389⟩, A260, H⟩ := H
      replace H : (if t388 < 0 then (laws_FnExactCountByFlips.j1 kj8 a0 l1 t372 t373 t379 true) else ((laws_eqIntS.f kj8 t379 t372).bind fun t390 => (if t390 = true then (laws_FnExactCountByFlips.j1 kj8 a0 l1 t372 t373 t379 (t380 != t373)) else (laws_FnExactCountByFlips.j1 kj8 a0 l1 t372 t373 t379 true)))) = some r := H
      have A26 := Aside0.mk A260
      clear A260
      have HC27 := Aside0.mk H
      clear H
      go_upto_region 14 with (first | ((with_reducible refine gate_callee (f := 6) rfl ?_); refine goesL_ (some 47) rfl rfl Tryz.func6 (by kernel_rfl) rfl #[.slice A1 l1.length c1] rfl amp_ ?_; (with_reducible refine (laws_toDiagonalS.calls kj8 _ _ l1 t384 _ ?side1 ?side2 A23.out).mono ?_); (case side1 => exact cd_ (Kd.C_below HR1.out HB.out)); (case side2 => exact HC1.out); rintro e w28 ⟨v385, rfl, ho0, hb⟩; refine ⟨_, rfl, ?_⟩; have HO386 := Aside0.mk (Kd.R_lower (Kd.R_new' ho0 (Kd.R_lt (ra_ HO_8.out))) (below_size blw_)); replace HO_6 := Aside0.mk (Kd.R_below (ra_ HO_6.out) hb); replace HO_8 := Aside0.mk (Kd.R_elder' (ra_ HO_8.out) (Kd.R_base ho0) hb); replace HO_9 := Aside0.mk (Kd.R_below (ra_ HO_9.out) hb); replace HB := Aside0.mk (below_step blw_ hb); (try clear hb); (try clear hb2); (try clear hk); (try clear hi); (try clear ho0); obtain ⟨Ao29, co29, eo29⟩ := Kd.R_slice HO386.out; subst eo29) | ((with_reducible refine gate_callee (f := 9) rfl ?_); refine goesL_ (some 48) rfl rfl Tryz.func9 (by kernel_rfl) rfl #[.slice Ao14 t376.length co14, .slice Ao29 t384.length co29] rfl amp_ ?_; (with_reducible refine (laws_eqDiagonalS.calls kj8 _ _ t376 _ _ t384 true _ ?side1 ?side2 ?side3 ?side4 A24.out).mono ?_); (case side1 => exact cd_ (Kd.R_reads' HO_8.out).2.2); (case side2 => exact (Kd.R_reads' HO_8.out).2.1); (case side3 => exact cd_ (Kd.R_reads' HO386.out).2.2); (case side4 => exact (Kd.R_reads' HO386.out).2.1); rintro e w30 ⟨rfl, hb⟩; refine ⟨_, rfl, ?_⟩; replace HO_6 := Aside0.mk (Kd.R_below (ra_ HO_6.out) hb); replace HO_8 := Aside0.mk (Kd.R_below (ra_ HO_8.out) hb); replace HO_9 := Aside0.mk (Kd.R_below (ra_ HO_9.out) hb); replace HO386 := Aside0.mk (Kd.R_below (ra_ HO386.out) hb); replace HB := Aside0.mk (below_step blw_ hb); (try clear hb); (try clear hb2); (try clear hk); (try clear hi)) | ((with_reducible refine gate_callee (f := 10) rfl ?_); refine goesL_ (some 52) rfl rfl Tryz.func10 (by kernel_rfl) rfl #[.slice Ao14 t376.length co14, .int .i64 1] rfl amp_ ?_; (with_reducible refine (laws_markDiagonalS.calls kj8 (fun k_ => some k_ = (.slice Ao14 t376.length co14 : Value).ownBlock) (.slice Ao14 t376.length co14) t376 1 t388 t389 w _ ?side1 ?side2 A26.out).mono ?_); (case side1 => repeat (first | (with_reducible first | exact HB.out | apply below_alloc | apply pw_below_drewN | apply below_drew1) | exact HB.out)); (case side2 => exact Kd.R_tight rfl HO_8.out); rintro e w31 ⟨rfl, hy0, hb, hkp⟩; refine ⟨_, rfl, ?_⟩; replace HO_6 := Aside0.mk (Kd.R_mono (ok' := fun k_ => some k_ ≠ (v381 : Value).ownBlock) (Kd.R_keptB ((Kd.R_apart' HO_6.out (Kd.R_typed HO_8.out) (by decide))) hkp (fun k_ hk_ hs_ => (hk_.2) hs_)) (fun k_ hk_ => hk_.1.1)); replace HO_9 := Aside0.mk (Kd.R_mono (ok' := fun k_ => some k_ ≠ (v374 : Value).ownBlock) (Kd.R_keptB ((Kd.R_apart' HO_9.out (Kd.R_typed HO_8.out) (by decide))) hkp (fun k_ hk_ hs_ => (hk_.2) hs_)) (fun k_ hk_ => hk_.1.1)); replace HO_8 := Aside0.mk (Kd.R_reok rfl hy0 (fun k_ e_ => HO_8.out.1 k_ e_)); replace HO386 := Aside0.mk (Kd.R_mono (ok' := fun k_ => some k_ ≠ (.slice Ao14 t376.length co14 : Value).ownBlock) (Kd.R_keptB (HO386.out) hkp (fun k_ hk_ hs_ => (hk_.2) hs_)) (fun k_ hk_ => hk_.1.2)); replace HB := Aside0.mk (hb); (try clear hb); (try clear hkp); (try clear hy0)))
      (try simp only [Act.put, List.setIfInBounds_toArray, List.set_cons_zero, List.set_cons_succ])
      go_cut [65] (fun v65 wc => ∃ (kq : Nat) (x65_26 : Bool), v65 = .bool x65_26 ∧ Aside0 (laws_FnExactCountByFlips.j1 kq a0 l1 t372 t373 t379 x65_26 = some r) ∧ Aside0 (kq ≤ kj8) ∧ Aside0 (Kd.R (Kd.int .i64) 3 wc w.heap.size (fun k_ => some k_ ≠ (v381 : Value).ownBlock) v374 t372) ∧ Aside0 (Kd.R (Kd.int .i64) 3 wc w.heap.size (fun k_ => some k_ ≠ (v374 : Value).ownBlock) v381 t379) ∧ Aside0 (Below w.heap.size w wc))
      case first =>
       have H := HC27.out
       clear HC27
       by_cases c32 : t388 < 0
       ·rw [if_pos c32] at H
        have c32b0 : decide (t388 < 0) = true := decide_eq_true c32
        clear c32
        (first | rw [c32b0] | (simp only [i64_w, i32_w]; rw [c32b0]) | skip)
        have H' := Aside0.mk H
        clear H
        go_wp2
        go_meet
        case rel => exact ⟨_, (true), rsd_, H', ⟨by have := HJ8.out; first | omega | exact Nat.le_refl _⟩, ⟨ra_ HO_6.out⟩, ⟨ra_ HO_9.out⟩, ⟨blw_⟩⟩
       ·rw [if_neg c32] at H
        have c32b0 : decide (t388 < 0) = false := decide_eq_false c32
        clear c32
        (first | rw [c32b0] | (simp only [i64_w, i32_w]; rw [c32b0]) | skip)
        replace H := Option.bind_eq_some_iff.mp H
        obtain ⟨t390, A330, H⟩ := H
        replace H : (if t390 = true then (laws_FnExactCountByFlips.j1 kj8 a0 l1 t372 t373 t379 (t380 != t373)) else (laws_FnExactCountByFlips.j1 kj8 a0 l1 t372 t373 t379 true)) = some r := H
        have A33 := Aside0.mk A330
        clear A330
        by_cases c34 : t390 = true
        ·subst c34
         replace H : (laws_FnExactCountByFlips.j1 kj8 a0 l1 t372 t373 t379 (t380 != t373)) = some r := by rw [if_pos rfl] at H; exact H
         have H' := Aside0.mk H
         clear H
         obtain ⟨Ao35, co35, eo35⟩ := Kd.R_slice HO_9.out
         subst eo35
         obtain ⟨Ao36, co36, eo36⟩ := Kd.R_slice HO_6.out
         subst eo36
         go_wp2_with (first | (go_at_call 8; (with_reducible refine (laws_eqIntS.calls kj8 _ _ t379 _ _ t372 true _ ?side1 ?side2 ?side3 ?side4 A33.out).mono ?_); (case side1 => exact cd_ (Kd.R_reads' HO_9.out).2.2); (case side2 => exact (Kd.R_reads' HO_9.out).2.1); (case side3 => exact cd_ (Kd.R_reads' HO_6.out).2.2); (case side4 => exact (Kd.R_reads' HO_6.out).2.1); rintro e w' ⟨rfl, ⟨nd, rfl⟩⟩))
         go_meet
         case rel => exact ⟨_, ((t380 != t373)), rsd_, H', ⟨by have := HJ8.out; first | omega | exact Nat.le_refl _⟩, ⟨ra_ HO_6.out⟩, ⟨ra_ HO_9.out⟩, ⟨blw_⟩⟩
        ·replace c34 := Bool.eq_false_iff.mpr c34
         subst c34
         replace H : (laws_FnExactCountByFlips.j1 kj8 a0 l1 t372 t373 t379 true) = some r := by rw [if_neg (show ¬ (false = true) by decide)] at H; exact H
         have H' := Aside0.mk H
         clear H
         obtain ⟨Ao37, co37, eo37⟩ := Kd.R_slice HO_9.out
         subst eo37
         obtain ⟨Ao38, co38, eo38⟩ := Kd.R_slice HO_6.out
         subst eo38
         go_wp2_with (first | (go_at_call 8; (with_reducible refine (laws_eqIntS.calls kj8 _ _ t379 _ _ t372 false _ ?side1 ?side2 ?side3 ?side4 A33.out).mono ?_); (case side1 => exact cd_ (Kd.R_reads' HO_9.out).2.2); (case side2 => exact (Kd.R_reads' HO_9.out).2.1); (case side3 => exact cd_ (Kd.R_reads' HO_6.out).2.2); (case side4 => exact (Kd.R_reads' HO_6.out).2.1); rintro e w' ⟨rfl, ⟨nd, rfl⟩⟩))
         go_meet
         case rel => exact ⟨_, (true), rsd_, H', ⟨by have := HJ8.out; first | omega | exact Nat.le_refl _⟩, ⟨ra_ HO_6.out⟩, ⟨ra_ HO_9.out⟩, ⟨blw_⟩⟩
      case rest =>
       clear HC27
       try clear c1
       try clear c2
       try clear p2
       try clear c3
       try clear c4
       try clear c4b0
       try clear c5
       try clear c6
       try clear c7
       try clear c8
       try clear c9
       try clear c10
       try clear c17
       try clear c22
       try clear c25
       try clear c32
       try clear c32b0
       try clear c34
       try clear p2
       obtain ⟨kq, x65_26, rfl, HA, HJ26, HO_6, HO_9, HB⟩ := hcut
       cases kq with
       | zero => exact absurd HA.out (by simp [laws_FnExactCountByFlips.j1])
       | succ kj26 =>
        have H := HA.out
        clear HA
        simp only [laws_FnExactCountByFlips.j1] at H
        by_cases c39 : x65_26 = true
        ·subst c39
         replace H : (some false) = some r := by rw [if_pos rfl] at H; exact H
         exact absurd (H.trans (congrArg some htrue.out)) (by decide)
        ·replace c39 := Bool.eq_false_iff.mpr c39
         subst c39
         replace H : ((laws_markIntS.f kj26 t379 1).bind fun bt391 => ((laws_heldIntS.f kj26 bt391.2 1).bind fun t393 => (if t393 < 0 then (some false) else (if t393 = bt391.1 then ((laws_toDiagonalS.f kj26 l1).bind fun t394 => ((impl_CountByFlips.f kj26 a0 t394).bind fun bt397 => ((laws_eqIntS.f kj26 bt397.1 t372).bind fun t401 => (if t401 = true then (laws_FnExactCountByFlips.j2 kj26 bt391.2 bt391.1 (bt397.2 != t373)) else (laws_FnExactCountByFlips.j2 kj26 bt391.2 bt391.1 true))))) else (some false))))) = some r := by rw [if_neg (show ¬ (false = true) by decide)] at H; exact H
         replace H := Option.bind_eq_some_iff.mp H
         obtain ⟨⟨t391, t392⟩, A400, H⟩ := H
         replace H : ((laws_heldIntS.f kj26 t392 1).bind fun t393 => (if t393 < 0 then (some false) else (if t393 = t391 then ((laws_toDiagonalS.f kj26 l1).bind fun t394 => ((impl_CountByFlips.f kj26 a0 t394).bind fun bt397 => ((laws_eqIntS.f kj26 bt397.1 t372).bind fun t401 => (if t401 = true then (laws_FnExactCountByFlips.j2 kj26 t392 t391 (bt397.2 != t373)) else (laws_FnExactCountByFlips.j2 kj26 t392 t391 true))))) else (some false)))) = some r := H
         have A40 := Aside0.mk A400
         clear A400
         replace H := Option.bind_eq_some_iff.mp H
         obtain ⟨t393, A410, H⟩ := H
         replace H : (if t393 < 0 then (some false) else (if t393 = t391 then ((laws_toDiagonalS.f kj26 l1).bind fun t394 => ((impl_CountByFlips.f kj26 a0 t394).bind fun bt397 => ((laws_eqIntS.f kj26 bt397.1 t372).bind fun t401 => (if t401 = true then (laws_FnExactCountByFlips.j2 kj26 t392 t391 (bt397.2 != t373)) else (laws_FnExactCountByFlips.j2 kj26 t392 t391 true))))) else (some false))) = some r := H
         have A41 := Aside0.mk A410
         clear A410
         by_cases c42 : t393 < 0
         ·rw [if_pos c42] at H
          have c42b0 : decide (t393 < 0) = true := decide_eq_true c42
          clear c42
          exact absurd (H.trans (congrArg some htrue.out)) (by decide)
         ·rw [if_neg c42] at H
          have c42b0 : decide (t393 < 0) = false := decide_eq_false c42
          clear c42
          by_cases c43 : t393 = t391
          ·rw [if_pos c43] at H
           have c43b0 : (t393 == t391) = true := beq_iff_eq.mpr c43
           have c43b1 : (t393 != t391) = false := bne_eq_false_iff_eq.mpr c43
           clear c43
           replace H := Option.bind_eq_some_iff.mp H
           obtain ⟨t394, A440, H⟩ := H
           replace H : ((impl_CountByFlips.f kj26 a0 t394).bind fun bt397 => ((laws_eqIntS.f kj26 bt397.1 t372).bind fun t401 => (if t401 = true then (laws_FnExactCountByFlips.j2 kj26 t392 t391 (bt397.2 != t373)) else (laws_FnExactCountByFlips.j2 kj26 t392 t391 true)))) = some r := H
           have A44 := Aside0.mk A440
           clear A440
           replace H := Option.bind_eq_some_iff.mp H
           obtain ⟨⟨t397, t398⟩, A450, H⟩ := H
           replace H : ((laws_eqIntS.f kj26 t397 t372).bind fun t401 => (if t401 = true then (laws_FnExactCountByFlips.j2 kj26 t392 t391 (t398 != t373)) else (laws_FnExactCountByFlips.j2 kj26 t392 t391 true))) = some r := H
           have A45 := Aside0.mk A450
           clear A450
           have HC46 := Aside0.mk H
           clear H
           obtain ⟨Ao47, co47, eo47⟩ := Kd.R_slice HO_9.out
           subst eo47
           go_upto_region 25 with (first | ((with_reducible refine gate_callee (f := 11) rfl ?_); refine goesL_ (some 68) rfl rfl Tryz.func11 (by kernel_rfl) rfl #[.slice Ao47 t379.length co47, .int .i64 1] rfl amp_ ?_; (with_reducible refine (laws_markIntS.calls kj26 (fun k_ => some k_ = (.slice Ao47 t379.length co47 : Value).ownBlock) (.slice Ao47 t379.length co47) t379 1 t391 t392 w _ ?side1 ?side2 A40.out).mono ?_); (case side1 => repeat (first | (with_reducible first | exact HB.out | apply below_alloc | apply pw_below_drewN | apply below_drew1) | exact HB.out)); (case side2 => exact Kd.R_tight rfl HO_9.out); rintro e w48 ⟨rfl, hy0, hb, hkp⟩; refine ⟨_, rfl, ?_⟩; replace HO_6 := Aside0.mk (Kd.R_mono (ok' := fun k_ => some k_ ≠ (.slice Ao47 t379.length co47 : Value).ownBlock) (Kd.R_keptB (HO_6.out) hkp (fun k_ hk_ hs_ => (hk_) hs_)) (fun k_ hk_ => hk_.1)); replace HO_9 := Aside0.mk (Kd.R_reok rfl hy0 (fun k_ e_ => HO_9.out.1 k_ e_)); replace HB := Aside0.mk (hb); (try clear hb); (try clear hkp); (try clear hy0)) | ((with_reducible refine gate_callee (f := 12) rfl ?_); refine goesL_ (some 71) rfl rfl Tryz.func12 (by kernel_rfl) rfl #[.slice Ao47 t392.length co47, .int .i64 1] rfl (by (try simp only [List.map_toArray, List.map_cons, List.map_nil]); first | done | (rw [show t392.length = t379.length from (Kd.R_reads' HO_9.out).1.symm] <;> rfl) | rfl | (simp only [List.length_drop, List.length_take]; rfl)) ?_; (with_reducible refine (laws_heldIntS.calls kj26 _ _ t392 1 t393 _ ?side1 ?side2 A41.out).mono ?_); (case side1 => exact cd_ (Kd.R_reads' HO_9.out).2.2); (case side2 => rw [show t392.length = t379.length from (Kd.R_reads' HO_9.out).1.symm]; exact (Kd.R_reads' HO_9.out).2.1); rintro e w' ⟨rfl, ⟨nd, rfl⟩⟩; refine ⟨_, rfl, ?_⟩) | ((with_reducible refine gate_callee (f := 6) rfl ?_); refine goesL_ (some 80) rfl rfl Tryz.func6 (by kernel_rfl) rfl #[.slice A1 l1.length c1] rfl amp_ ?_; (with_reducible refine (laws_toDiagonalS.calls kj26 _ _ l1 t394 _ ?side1 ?side2 A44.out).mono ?_); (case side1 => exact cd_ (Kd.C_below HR1.out blw_)); (case side2 => exact HC1.out); rintro e w49 ⟨v395, rfl, ho0, hb⟩; refine ⟨_, rfl, ?_⟩; have HO396 := Aside0.mk (Kd.R_lower ho0 (below_size blw_)); replace HO_6 := Aside0.mk (Kd.R_below (ra_ HO_6.out) hb); replace HO_9 := Aside0.mk (Kd.R_below (ra_ HO_9.out) hb); replace HB := Aside0.mk (below_step blw_ hb); (try clear hb); (try clear hb2); (try clear hk); (try clear hi); (try clear ho0); obtain ⟨Ao50, co50, eo50⟩ := Kd.R_slice HO396.out; subst eo50) | ((with_reducible refine gate_callee (f := 7) rfl ?_); refine goesL_ (some 81) rfl rfl Tryz.func7 (by kernel_rfl) rfl #[.int .i64 a0, .slice Ao50 t394.length co50] rfl amp_ ?_; (with_reducible refine (impl_CountByFlips.calls kj26 a0 _ _ t394 t397 t398 _ ?side1 ?side2 A45.out (HTAB.out.below blw_)).mono ?_); (case side1 => exact cd_ (Kd.R_reads' HO396.out).2.2); (case side2 => exact (Kd.R_reads' HO396.out).2.1); rintro e w51 ⟨v399, rfl, ho0, hb⟩; refine ⟨_, rfl, ?_⟩; have HO400 := Aside0.mk (Kd.R_lower (Kd.R_new' (Kd.R_new' ho0 (Kd.R_lt (ra_ HO_6.out))) (Kd.R_lt (ra_ HO_9.out))) (below_size blw_)); replace HO_6 := Aside0.mk (Kd.R_elder' (ra_ HO_6.out) (Kd.R_base ho0) hb); replace HO_9 := Aside0.mk (Kd.R_elder' (ra_ HO_9.out) (Kd.R_base ho0) hb); replace HO396 := Aside0.mk (Kd.R_below (ra_ HO396.out) hb); replace HB := Aside0.mk (below_step blw_ hb); (try clear hb); (try clear hb2); (try clear hk); (try clear hi); (try clear ho0)))
           (try simp only [Act.put, List.setIfInBounds_toArray, List.set_cons_zero, List.set_cons_succ])
           go_cut [92] (fun v92 wc => ∃ (kq : Nat) (x92_45 : Bool), v92 = .bool x92_45 ∧ Aside0 (laws_FnExactCountByFlips.j2 kq t392 t391 x92_45 = some r) ∧ Aside0 (kq ≤ kj26) ∧ Aside0 (Kd.R (Kd.int .i64) 3 wc w.heap.size (fun _ => True) (.slice Ao47 t379.length co47) t392) ∧ Aside0 (Below w.heap.size w wc))
           case first =>
            have H := HC46.out
            clear HC46
            replace H := Option.bind_eq_some_iff.mp H
            obtain ⟨t401, A520, H⟩ := H
            replace H : (if t401 = true then (laws_FnExactCountByFlips.j2 kj26 t392 t391 (t398 != t373)) else (laws_FnExactCountByFlips.j2 kj26 t392 t391 true)) = some r := H
            have A52 := Aside0.mk A520
            clear A520
            by_cases c53 : t401 = true
            ·subst c53
             replace H : (laws_FnExactCountByFlips.j2 kj26 t392 t391 (t398 != t373)) = some r := by rw [if_pos rfl] at H; exact H
             have H' := Aside0.mk H
             clear H
             obtain ⟨Ao54, co54, eo54⟩ := Kd.R_slice HO400.out
             subst eo54
             obtain ⟨Ao55, co55, eo55⟩ := Kd.R_slice HO_6.out
             subst eo55
             go_wp2_with (first | ((with_reducible refine gate_callee (f := 8) rfl ?_); refine goesL_ (some 86) rfl rfl Tryz.func8 (by kernel_rfl) rfl #[.slice Ao54 t397.length co54, .slice Ao55 t372.length co55] rfl amp_ ?_; (with_reducible refine (laws_eqIntS.calls kj26 _ _ t397 _ _ t372 true _ ?side1 ?side2 ?side3 ?side4 A52.out).mono ?_); (case side1 => exact cd_ (Kd.R_reads' HO400.out).2.2); (case side2 => exact (Kd.R_reads' HO400.out).2.1); (case side3 => exact cd_ (Kd.R_reads' HO_6.out).2.2); (case side4 => exact (Kd.R_reads' HO_6.out).2.1); rintro e w' ⟨rfl, ⟨nd, rfl⟩⟩; refine ⟨_, rfl, ?_⟩))
             go_meet
             case rel => exact ⟨_, ((t398 != t373)), rsd_, H', ⟨by have := HJ8.out; have := HJ26.out; first | omega | exact Nat.le_refl _⟩, ⟨by (with_reducible repeat (first | apply Kd.R_alloc | apply Kd.R_drewN | apply Kd.R_drew)); exact Kd.R_mono HO_9.out (fun _ hk => trivial)⟩, ⟨blw_⟩⟩
            ·replace c53 := Bool.eq_false_iff.mpr c53
             subst c53
             replace H : (laws_FnExactCountByFlips.j2 kj26 t392 t391 true) = some r := by rw [if_neg (show ¬ (false = true) by decide)] at H; exact H
             have H' := Aside0.mk H
             clear H
             obtain ⟨Ao56, co56, eo56⟩ := Kd.R_slice HO400.out
             subst eo56
             obtain ⟨Ao57, co57, eo57⟩ := Kd.R_slice HO_6.out
             subst eo57
             go_wp2_with (first | ((with_reducible refine gate_callee (f := 8) rfl ?_); refine goesL_ (some 86) rfl rfl Tryz.func8 (by kernel_rfl) rfl #[.slice Ao56 t397.length co56, .slice Ao57 t372.length co57] rfl amp_ ?_; (with_reducible refine (laws_eqIntS.calls kj26 _ _ t397 _ _ t372 false _ ?side1 ?side2 ?side3 ?side4 A52.out).mono ?_); (case side1 => exact cd_ (Kd.R_reads' HO400.out).2.2); (case side2 => exact (Kd.R_reads' HO400.out).2.1); (case side3 => exact cd_ (Kd.R_reads' HO_6.out).2.2); (case side4 => exact (Kd.R_reads' HO_6.out).2.1); rintro e w' ⟨rfl, ⟨nd, rfl⟩⟩; refine ⟨_, rfl, ?_⟩))
             go_meet
             case rel => exact ⟨_, (true), rsd_, H', ⟨by have := HJ8.out; have := HJ26.out; first | omega | exact Nat.le_refl _⟩, ⟨by (with_reducible repeat (first | apply Kd.R_alloc | apply Kd.R_drewN | apply Kd.R_drew)); exact Kd.R_mono HO_9.out (fun _ hk => trivial)⟩, ⟨blw_⟩⟩
           case rest =>
            clear HC46
            try clear c1
            try clear c2
            try clear p2
            try clear c3
            try clear c4
            try clear c4b0
            try clear c5
            try clear c6
            try clear c7
            try clear c8
            try clear c9
            try clear c10
            try clear c11
            try clear c12
            try clear c17
            try clear c22
            try clear c25
            try clear c32
            try clear c32b0
            try clear c34
            try clear c39
            try clear c42
            try clear c42b0
            try clear c43
            try clear c43b0
            try clear c43b1
            try clear c53
            try clear p2
            obtain ⟨kq, x92_45, rfl, HA, HJ45, HO_9, HB⟩ := hcut
            have hl9_45 := (Kd.R_reads' HO_9.out).1
            rw [hl9_45] at HO_9
            (try simp only [hl9_45])
            cases kq with
            | zero => exact absurd HA.out (by simp [laws_FnExactCountByFlips.j2])
            | succ kj45 =>
             have H := HA.out
             clear HA
             simp only [laws_FnExactCountByFlips.j2] at H
             by_cases c58 : x92_45 = true
             ·subst c58
              replace H : (some false) = some r := by rw [if_pos rfl] at H; exact H
              exact absurd (H.trans (congrArg some htrue.out)) (by decide)
             ·replace c58 := Bool.eq_false_iff.mpr c58
              subst c58
              replace H : ((laws_heldIntS.f kj45 t392 1).bind fun t402 => (if t402 < 0 then (some false) else (if t402 = t391 then (some true) else (some false)))) = some r := by rw [if_neg (show ¬ (false = true) by decide)] at H; exact H
              replace H := Option.bind_eq_some_iff.mp H
              obtain ⟨t402, A590, H⟩ := H
              replace H : (if t402 < 0 then (some false) else (if t402 = t391 then (some true) else (some false))) = some r := H
              have A59 := Aside0.mk A590
              clear A590
              by_cases c60 : t402 < 0
              ·rw [if_pos c60] at H
               have c60b0 : decide (t402 < 0) = true := decide_eq_true c60
               clear c60
               exact absurd (H.trans (congrArg some htrue.out)) (by decide)
              ·rw [if_neg c60] at H
               have c60b0 : decide (t402 < 0) = false := decide_eq_false c60
               clear c60
               by_cases c61 : t402 = t391
               ·rw [if_pos c61] at H
                have c61b0 : (t402 == t391) = true := beq_iff_eq.mpr c61
                have c61b1 : (t402 != t391) = false := bne_eq_false_iff_eq.mpr c61
                clear c61
                obtain rfl := Option.some.inj H
                go_wp2_with (first | ((with_reducible refine gate_callee (f := 12) rfl ?_); refine goesL_ (some 95) rfl rfl Tryz.func12 (by kernel_rfl) rfl #[.slice Ao47 t392.length co47, .int .i64 1] rfl amp_ ?_; (with_reducible refine (laws_heldIntS.calls kj45 _ _ t392 1 t402 _ ?side1 ?side2 A59.out).mono ?_); (case side1 => exact cd_ (Kd.R_reads' HO_9.out).2.2); (case side2 => exact (Kd.R_reads' HO_9.out).2.1); rintro e w' ⟨rfl, ⟨nd, rfl⟩⟩; refine ⟨_, rfl, ?_⟩))
                go_ret
                exact er_
               ·rw [if_neg c61] at H
                have c61b0 : (t402 == t391) = false := beq_eq_false_iff_ne.mpr c61
                have c61b1 : (t402 != t391) = true := bne_iff_ne.mpr c61
                exact absurd (H.trans (congrArg some htrue.out)) (by decide)
          ·rw [if_neg c43] at H
           have c43b0 : (t393 == t391) = false := beq_eq_false_iff_ne.mpr c43
           have c43b1 : (t393 != t391) = true := bne_iff_ne.mpr c43
           exact absurd (H.trans (congrArg some htrue.out)) (by decide)
     ·replace c25 := Bool.eq_false_iff.mpr c25
      subst c25
      replace H : (some false) = some r := by rw [if_neg (show ¬ (false = true) by decide)] at H; exact H
      exact absurd (H.trans (congrArg some htrue.out)) (by decide)

end Go.Proofs.YtgblginphicacaaGreatDoor.PFnExactCountByFlips
