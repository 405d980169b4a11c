-- WRITTEN BY A PROGRAM OF THIS WORK (wip/tools/ppatch.py) for this claim.
import Derived.Test.YtkipgbakoljaeaaPFnExactTriangulationOfRankx0
import Derived.Test.YtkipgbakoljaeaaPFnExactTriangulationOfRankx3
import Derived.Test.YtkipgbakoljaeaaPFnExactTriangulationOfRankx4
import Derived.Test.YtkipgbakoljaeaaPFnExactTriangulationOfRankx5
namespace Go.Proofs.Ytkipgbakoljaeaa.PFnExactTriangulationOfRank
open Go.RowKit Go.Proofs.YtkipgbakoljaeaaW.PrintWords Go.Proofs.YtkipgbakoljaeaaW.PrintLast Go.Proofs.YtkipgbakoljaeaaW.PrintMore
attribute [local go_sem] max2_int min2_int max_two min_two max_three min_three max_four min_four   -- for this text's walks alone
set_option linter.unusedVariables false
set_option linter.unusedSimpArgs false

/-! ### laws_FnExactTriangulationOfRank: function 3 -/
mutual
def laws_FnExactTriangulationOfRank.j0 : Nat → Int → Int → List (S36) → Bool → List (S36) → Bool → Option (Bool)
 | 0, _, _, _, _, _, _ => none
 | k + 1, x0, x1, x5, x6, x7, x33 => if x33 = true then (some false) else ((laws_markDiagonalS.f k x7 1).bind fun bt158 => ((laws_heldDiagonalS.f k bt158.2 1).bind fun t160 => (if t160 < 0 then (some false) else (if t160 = bt158.1 then ((impl_TriangulationOfRank.f k x0 x1).bind fun bt161 => ((laws_eqDiagonalS.f k bt161.1 x5).bind fun t165 => (if t165 = true then (laws_FnExactTriangulationOfRank.j1 k bt158.2 bt158.1 (bt161.2 != x6)) else (laws_FnExactTriangulationOfRank.j1 k bt158.2 bt158.1 true)))) else (some false)))))
def laws_FnExactTriangulationOfRank.j1 : Nat → List (S36) → Int → Bool → Option (Bool)
 | 0, _, _, _ => none
 | k + 1, x7, x9, x59 => if x59 = true then (some false) else ((laws_heldDiagonalS.f k x7 1).bind fun t166 => (if t166 < 0 then (some false) else (if t166 = x9 then (some true) else (some false))))
end
def laws_FnExactTriangulationOfRank.f (k : Nat) (a0 : Int) (a1 : Int) : Option (Bool) := (spec_TriangulationOfRank.f k a0 a1).bind fun bt149 => ((impl_TriangulationOfRank.f k a0 a1).bind fun bt153 => ((laws_eqDiagonalS.f k bt153.1 bt149.1).bind fun t157 => (if t157 = true then (laws_FnExactTriangulationOfRank.j0 k a0 a1 bt149.1 bt149.2 bt153.1 (bt153.2 != bt149.2)) else (laws_FnExactTriangulationOfRank.j0 k a0 a1 bt149.1 bt149.2 bt153.1 true))))
theorem laws_FnExactTriangulationOfRank.mono_l : ∀ k, (∀ y0 y1 y2 y3 y4 y5, LeO (laws_FnExactTriangulationOfRank.j0 k y0 y1 y2 y3 y4 y5) (laws_FnExactTriangulationOfRank.j0 (k + 1) y0 y1 y2 y3 y4 y5)) ∧ (∀ y0 y1 y2, LeO (laws_FnExactTriangulationOfRank.j1 k y0 y1 y2) (laws_FnExactTriangulationOfRank.j1 (k + 1) y0 y1 y2))
 | 0 => ⟨fun _ _ _ _ _ _ r h => by simp [laws_FnExactTriangulationOfRank.j0] at h, fun _ _ _ r h => by simp [laws_FnExactTriangulationOfRank.j1] at h⟩
 | k + 1 => by
  obtain ⟨ih0, ih1⟩ := laws_FnExactTriangulationOfRank.mono_l k
  refine ⟨?_, ?_⟩
  ·intro y0 y1 y2 y3 y4 y5
   unfold laws_FnExactTriangulationOfRank.j0
   repeat' first
   | (with_reducible exact ih0 _ _ _ _ _ _)
   | (with_reducible exact ih1 _ _ _)
   | (with_reducible exact impl_TriangulationOfRank.mono _ _ _)
   | (with_reducible exact laws_eqDiagonalS.mono _ _ _)
   | (with_reducible exact laws_heldDiagonalS.mono _ _ _)
   | (with_reducible exact laws_markDiagonalS.mono _ _ _)
   | (with_reducible exact spec_TriangulationOfRank.mono _ _ _)
   | (with_reducible exact LeO.refl _)
   | (with_reducible exact LeO.none _)
   | (with_reducible refine LeO.ite ?_ ?_)
   | (with_reducible refine LeO.bind ?_ (fun _ => ?_))
   | exact ih0 _ _ _ _ _ _
   | exact ih1 _ _ _
   | exact impl_TriangulationOfRank.mono _ _ _
   | exact laws_eqDiagonalS.mono _ _ _
   | exact laws_heldDiagonalS.mono _ _ _
   | exact laws_markDiagonalS.mono _ _ _
   | exact spec_TriangulationOfRank.mono _ _ _
   | exact LeO.none _
   | refine LeO.ite ?_ ?_
   | refine LeO.bind ?_ (fun _ => ?_)
  ·intro y0 y1 y2
   unfold laws_FnExactTriangulationOfRank.j1
   repeat' first
   | (with_reducible exact ih0 _ _ _ _ _ _)
   | (with_reducible exact ih1 _ _ _)
   | (with_reducible exact impl_TriangulationOfRank.mono _ _ _)
   | (with_reducible exact laws_eqDiagonalS.mono _ _ _)
   | (with_reducible exact laws_heldDiagonalS.mono _ _ _)
   | (with_reducible exact laws_markDiagonalS.mono _ _ _)
   | (with_reducible exact spec_TriangulationOfRank.mono _ _ _)
   | (with_reducible exact LeO.refl _)
   | (with_reducible exact LeO.none _)
   | (with_reducible refine LeO.ite ?_ ?_)
   | (with_reducible refine LeO.bind ?_ (fun _ => ?_))
   | exact ih0 _ _ _ _ _ _
   | exact ih1 _ _ _
   | exact impl_TriangulationOfRank.mono _ _ _
   | exact laws_eqDiagonalS.mono _ _ _
   | exact laws_heldDiagonalS.mono _ _ _
   | exact laws_markDiagonalS.mono _ _ _
   | exact spec_TriangulationOfRank.mono _ _ _
   | exact LeO.none _
   | refine LeO.ite ?_ ?_
   | refine LeO.bind ?_ (fun _ => ?_)
theorem laws_FnExactTriangulationOfRank.mono : ∀ a0 a1 k, LeO (laws_FnExactTriangulationOfRank.f k a0 a1) (laws_FnExactTriangulationOfRank.f (k + 1) a0 a1) := by
 intro a0 a1 k
 obtain ⟨ih0, ih1⟩ := laws_FnExactTriangulationOfRank.mono_l k
 unfold laws_FnExactTriangulationOfRank.f
 repeat' first
   | (with_reducible exact ih0 _ _ _ _ _ _)
   | (with_reducible exact ih1 _ _ _)
   | (with_reducible exact impl_TriangulationOfRank.mono _ _ _)
   | (with_reducible exact laws_eqDiagonalS.mono _ _ _)
   | (with_reducible exact laws_heldDiagonalS.mono _ _ _)
   | (with_reducible exact laws_markDiagonalS.mono _ _ _)
   | (with_reducible exact spec_TriangulationOfRank.mono _ _ _)
   | (with_reducible exact LeO.refl _)
   | (with_reducible exact LeO.none _)
   | (with_reducible refine LeO.ite ?_ ?_)
   | (with_reducible refine LeO.bind ?_ (fun _ => ?_))
   | exact ih0 _ _ _ _ _ _
   | exact ih1 _ _ _
   | exact impl_TriangulationOfRank.mono _ _ _
   | exact laws_eqDiagonalS.mono _ _ _
   | exact laws_heldDiagonalS.mono _ _ _
   | exact laws_markDiagonalS.mono _ _ _
   | exact spec_TriangulationOfRank.mono _ _ _
   | exact LeO.none _
   | refine LeO.ite ?_ ?_
   | refine LeO.bind ?_ (fun _ => ?_)
set_option maxHeartbeats 8000000 in
set_option maxRecDepth 100000 in
theorem laws_FnExactTriangulationOfRank.calls (k : Nat) (a0 : Int) (a1 : Int) (r : Bool) (w : World) (h : laws_FnExactTriangulationOfRank.f k a0 a1 = some r) (htrue : Aside0 (r = true) := by exact ⟨rfl⟩) :
  Calls Try.prog 3 #[.int .i64 a0, .int .i64 a1] w fun e w' => e = .returned (.bool r) ∧ Below w.heap.size w w' := by
 have HB := Aside0.mk (Below.refl w.heap.size w)
 have H : ((spec_TriangulationOfRank.f k a0 a1).bind fun bt149 => ((impl_TriangulationOfRank.f k a0 a1).bind fun bt153 => ((laws_eqDiagonalS.f k bt153.1 bt149.1).bind fun t157 => (if t157 = true then (laws_FnExactTriangulationOfRank.j0 k a0 a1 bt149.1 bt149.2 bt153.1 (bt153.2 != bt149.2)) else (laws_FnExactTriangulationOfRank.j0 k a0 a1 bt149.1 bt149.2 bt153.1 true))))) = some r := h
 clear h
 replace H := Option.bind_eq_some_iff.mp H
 obtain ⟨⟨t149, t150⟩, A30, H⟩ := H
 replace H : ((impl_TriangulationOfRank.f k a0 a1).bind fun bt153 => ((laws_eqDiagonalS.f k bt153.1 t149).bind fun t157 => (if t157 = true then (laws_FnExactTriangulationOfRank.j0 k a0 a1 t149 t150 bt153.1 (bt153.2 != t150)) else (laws_FnExactTriangulationOfRank.j0 k a0 a1 t149 t150 bt153.1 true)))) = some r := H
 have A3 := Aside0.mk A30
 clear A30
 replace H := Option.bind_eq_some_iff.mp H
 obtain ⟨⟨t153, t154⟩, A40, H⟩ := H
 replace H : ((laws_eqDiagonalS.f k t153 t149).bind fun t157 => (if t157 = true then (laws_FnExactTriangulationOfRank.j0 k a0 a1 t149 t150 t153 (t154 != t150)) else (laws_FnExactTriangulationOfRank.j0 k a0 a1 t149 t150 t153 true))) = some r := H
 have A4 := Aside0.mk A40
 clear A40
 have HC5 := Aside0.mk H
 clear H
 go_enter Try.func3, Try.ntmps3
 go_upto_region 3 with (first | ((with_reducible refine gate_callee (f := 15) rfl ?_); refine goesL_ (some 16) rfl rfl Try.func15 (by kernel_rfl) rfl #[.int .i64 a0, .int .i64 a1] rfl amp_ ?_; (with_reducible refine (spec_TriangulationOfRank.calls k a0 a1 t149 t150 _ A3.out).mono ?_); rintro e w6 ⟨v151, rfl, ho0, hb⟩; refine ⟨_, rfl, ?_⟩; have n0_ := Aside0.mk (Kd.R_lower ho0 (below_size blw_)); have n1_ := Aside0.mk (below_step blw_ hb); clear HB; have HO152 := n0_; have HB := n1_; clear n0_ n1_; (try clear hb); (try clear hb2); (try clear hk); (try clear hi); (try clear ho0)) | ((with_reducible refine gate_callee (f := 16) rfl ?_); refine goesL_ (some 22) rfl rfl Try.func16 (by kernel_rfl) rfl #[.int .i64 a0, .int .i64 a1] rfl amp_ ?_; (with_reducible refine (impl_TriangulationOfRank.calls k a0 a1 t153 t154 _ A4.out).mono ?_); rintro e w7 ⟨v155, rfl, ho0, hb⟩; refine ⟨_, rfl, ?_⟩; have n0_ := Aside0.mk (Kd.R_elder' (ra_ HO152.out) (Kd.R_base ho0) hb); have n1_ := Aside0.mk (Kd.R_lower (Kd.R_new' ho0 (Kd.R_lt (ra_ HO152.out))) (below_size blw_)); have n2_ := Aside0.mk (below_step blw_ hb); clear HO152; clear HB; have HO152 := n0_; have HO156 := n1_; have HB := n2_; clear n0_ n1_ n2_; (try clear hb); (try clear hb2); (try clear hk); (try clear hi); (try clear ho0)))
 (try simp only [Act.put, List.setIfInBounds_toArray, List.set_cons_zero, List.set_cons_succ])
 go_cut [33] (fun v33 wc => ∃ (kq : Nat) (x33_4 : Bool), v33 = .bool x33_4 ∧ Aside0 (laws_FnExactTriangulationOfRank.j0 kq a0 a1 t149 t150 t153 x33_4 = some r) ∧ Aside0 (kq ≤ k) ∧ Aside0 (Kd.R k36 36 wc w.heap.size (fun k_ => some k_ ≠ (v155 : Value).ownBlock) v151 t149) ∧ Aside0 (Kd.R k36 36 wc w.heap.size (fun k_ => some k_ ≠ (v151 : Value).ownBlock) v155 t153) ∧ Aside0 (Below w.heap.size w wc))
 case first =>
  have H := HC5.out
  clear HC5
  replace H := Option.bind_eq_some_iff.mp H
  obtain ⟨t157, A80, H⟩ := H
  replace H : (if t157 = true then (laws_FnExactTriangulationOfRank.j0 k a0 a1 t149 t150 t153 (t154 != t150)) else (laws_FnExactTriangulationOfRank.j0 k a0 a1 t149 t150 t153 true)) = some r := H
  have A8 := Aside0.mk A80
  clear A80
  by_cases c9 : t157 = true
  ·subst c9
   have H1 : (laws_FnExactTriangulationOfRank.j0 k a0 a1 t149 t150 t153 (t154 != t150)) = some r := by rw [if_pos rfl] at H; exact H
   clear H
   have H := H1
   clear H1
   have H' := Aside0.mk H
   clear H
   obtain ⟨Ao10, co10, eo10⟩ := Kd.R_slice HO156.out
   subst eo10
   obtain ⟨Ao11, co11, eo11⟩ := Kd.R_slice HO152.out
   subst eo11
   go_wp2_with (first | ((with_reducible refine gate_callee (f := 17) rfl ?_); refine goesL_ (some 27) rfl rfl Try.func17 (by kernel_rfl) rfl #[.slice Ao10 t153.length co10, .slice Ao11 t149.length co11] rfl amp_ ?_; (with_reducible refine (laws_eqDiagonalS.calls k _ _ t153 _ _ t149 true _ ?side1 ?side2 ?side3 ?side4 A8.out).mono ?_); (case side1 => repeat (first | exact (Kd.R_reads' HO156.out).2.2 | (with_reducible refine Kd.C_alloc ?_ _) | (with_reducible refine Kd.C_drewN ?_ _) | (with_reducible refine Kd.C_drew ?_))); (case side2 => exact (Kd.R_reads' HO156.out).2.1); (case side3 => repeat (first | exact (Kd.R_reads' HO152.out).2.2 | (with_reducible refine Kd.C_alloc ?_ _) | (with_reducible refine Kd.C_drewN ?_ _) | (with_reducible refine Kd.C_drew ?_))); (case side4 => exact (Kd.R_reads' HO152.out).2.1); rintro e w12 ⟨rfl, hb⟩; refine ⟨_, rfl, ?_⟩; have n0_ := Aside0.mk (Kd.R_below (ra_ HO152.out) hb); have n1_ := Aside0.mk (Kd.R_below (ra_ HO156.out) hb); have n2_ := Aside0.mk (below_step blw_ hb); clear HO152; clear HO156; clear HB; have HO152 := n0_; have HO156 := n1_; have HB := n2_; clear n0_ n1_ n2_; (try clear hb); (try clear hb2); (try clear hk); (try clear hi)))
   go_meet
   case rel => exact ⟨_, ((t154 != t150)), (by first | rfl | (simp; done) | (simp [*]; done)), H', ⟨by first | omega | exact Nat.le_refl _⟩, ⟨by (with_reducible repeat (first | apply Kd.R_alloc | apply Kd.R_drewN | apply Kd.R_drew)); exact Kd.R_mono HO152.out (fun _ hk => hk.2)⟩, ⟨by (with_reducible repeat (first | apply Kd.R_alloc | apply Kd.R_drewN | apply Kd.R_drew)); exact Kd.R_mono HO156.out (fun _ hk => hk.2)⟩, ⟨by repeat (first | (with_reducible first | exact HB.out | apply below_alloc | apply pw_below_drewN | apply below_drew1) | exact HB.out)⟩⟩
  ·replace c9 := Bool.eq_false_iff.mpr c9
   subst c9
   have H1 : (laws_FnExactTriangulationOfRank.j0 k a0 a1 t149 t150 t153 true) = some r := by rw [if_neg (show ¬ (false = true) by decide)] at H; exact H
   clear H
   have H := H1
   clear H1
   have H' := Aside0.mk H
   clear H
   obtain ⟨Ao13, co13, eo13⟩ := Kd.R_slice HO156.out
   subst eo13
   obtain ⟨Ao14, co14, eo14⟩ := Kd.R_slice HO152.out
   subst eo14
   go_wp2_with (first | ((with_reducible refine gate_callee (f := 17) rfl ?_); refine goesL_ (some 27) rfl rfl Try.func17 (by kernel_rfl) rfl #[.slice Ao13 t153.length co13, .slice Ao14 t149.length co14] rfl amp_ ?_; (with_reducible refine (laws_eqDiagonalS.calls k _ _ t153 _ _ t149 false _ ?side1 ?side2 ?side3 ?side4 A8.out).mono ?_); (case side1 => repeat (first | exact (Kd.R_reads' HO156.out).2.2 | (with_reducible refine Kd.C_alloc ?_ _) | (with_reducible refine Kd.C_drewN ?_ _) | (with_reducible refine Kd.C_drew ?_))); (case side2 => exact (Kd.R_reads' HO156.out).2.1); (case side3 => repeat (first | exact (Kd.R_reads' HO152.out).2.2 | (with_reducible refine Kd.C_alloc ?_ _) | (with_reducible refine Kd.C_drewN ?_ _) | (with_reducible refine Kd.C_drew ?_))); (case side4 => exact (Kd.R_reads' HO152.out).2.1); rintro e w15 ⟨rfl, hb⟩; refine ⟨_, rfl, ?_⟩; have n0_ := Aside0.mk (Kd.R_below (ra_ HO152.out) hb); have n1_ := Aside0.mk (Kd.R_below (ra_ HO156.out) hb); have n2_ := Aside0.mk (below_step blw_ hb); clear HO152; clear HO156; clear HB; have HO152 := n0_; have HO156 := n1_; have HB := n2_; clear n0_ n1_ n2_; (try clear hb); (try clear hb2); (try clear hk); (try clear hi)))
   go_meet
   case rel => exact ⟨_, (true), (by first | rfl | (simp; done) | (simp [*]; done)), H', ⟨by first | omega | exact Nat.le_refl _⟩, ⟨by (with_reducible repeat (first | apply Kd.R_alloc | apply Kd.R_drewN | apply Kd.R_drew)); exact Kd.R_mono HO152.out (fun _ hk => hk.2)⟩, ⟨by (with_reducible repeat (first | apply Kd.R_alloc | apply Kd.R_drewN | apply Kd.R_drew)); exact Kd.R_mono HO156.out (fun _ hk => hk.2)⟩, ⟨by repeat (first | (with_reducible first | exact HB.out | apply below_alloc | apply pw_below_drewN | apply below_drew1) | exact HB.out)⟩⟩
 case rest =>
  clear HC5
  try clear c1
  try clear p2
  try clear c3
  try clear c9
  try clear c15
  obtain ⟨kq, x33_4, rfl, HA, HJ4, HO_5, HO_7, HB⟩ := hcut
  cases kq with
  | zero => exact absurd HA.out (by simp [laws_FnExactTriangulationOfRank.j0])
  | succ kj4 =>
   have H := HA.out
   clear HA
   simp only [laws_FnExactTriangulationOfRank.j0] at H
   by_cases c16 : x33_4 = true
   ·subst c16
    have H1 : (some false) = some r := by rw [if_pos rfl] at H; exact H
    clear H
    have H := H1
    clear H1
    exact absurd (H.trans (congrArg some htrue.out)) (by decide)
   ·replace c16 := Bool.eq_false_iff.mpr c16
    subst c16
    have H1 : ((laws_markDiagonalS.f kj4 t153 1).bind fun bt158 => ((laws_heldDiagonalS.f kj4 bt158.2 1).bind fun t160 => (if t160 < 0 then (some false) else (if t160 = bt158.1 then ((impl_TriangulationOfRank.f kj4 a0 a1).bind fun bt161 => ((laws_eqDiagonalS.f kj4 bt161.1 t149).bind fun t165 => (if t165 = true then (laws_FnExactTriangulationOfRank.j1 kj4 bt158.2 bt158.1 (bt161.2 != t150)) else (laws_FnExactTriangulationOfRank.j1 kj4 bt158.2 bt158.1 true)))) else (some false))))) = some r := by rw [if_neg (show ¬ (false = true) by decide)] at H; exact H
    clear H
    have H := H1
    clear H1
    replace H := Option.bind_eq_some_iff.mp H
    obtain ⟨⟨t158, t159⟩, A170, H⟩ := H
    replace H : ((laws_heldDiagonalS.f kj4 t159 1).bind fun t160 => (if t160 < 0 then (some false) else (if t160 = t158 then ((impl_TriangulationOfRank.f kj4 a0 a1).bind fun bt161 => ((laws_eqDiagonalS.f kj4 bt161.1 t149).bind fun t165 => (if t165 = true then (laws_FnExactTriangulationOfRank.j1 kj4 t159 t158 (bt161.2 != t150)) else (laws_FnExactTriangulationOfRank.j1 kj4 t159 t158 true)))) else (some false)))) = some r := H
    have A17 := Aside0.mk A170
    clear A170
    replace H := Option.bind_eq_some_iff.mp H
    obtain ⟨t160, A180, H⟩ := H
    replace H : (if t160 < 0 then (some false) else (if t160 = t158 then ((impl_TriangulationOfRank.f kj4 a0 a1).bind fun bt161 => ((laws_eqDiagonalS.f kj4 bt161.1 t149).bind fun t165 => (if t165 = true then (laws_FnExactTriangulationOfRank.j1 kj4 t159 t158 (bt161.2 != t150)) else (laws_FnExactTriangulationOfRank.j1 kj4 t159 t158 true)))) else (some false))) = some r := H
    have A18 := Aside0.mk A180
    clear A180
    by_cases c19 : t160 < 0
    ·rw [if_pos c19] at H
     have c19b0 : decide (t160 < 0) = true := decide_eq_true c19
     clear c19
     exact absurd (H.trans (congrArg some htrue.out)) (by decide)
    ·rw [if_neg c19] at H
     have c19b0 : decide (t160 < 0) = false := decide_eq_false c19
     clear c19
     by_cases c20 : t160 = t158
     ·rw [if_pos c20] at H
      have c20b0 : (t160 == t158) = true := beq_iff_eq.mpr c20
      have c20b1 : (t160 != t158) = false := bne_eq_false_iff_eq.mpr c20
      clear c20
      replace H := Option.bind_eq_some_iff.mp H
      obtain ⟨⟨t161, t162⟩, A210, H⟩ := H
      replace H : ((laws_eqDiagonalS.f kj4 t161 t149).bind fun t165 => (if t165 = true then (laws_FnExactTriangulationOfRank.j1 kj4 t159 t158 (t162 != t150)) else (laws_FnExactTriangulationOfRank.j1 kj4 t159 t158 true))) = some r := H
      have A21 := Aside0.mk A210
      clear A210
      have HC22 := Aside0.mk H
      clear H
      obtain ⟨Ao23, co23, eo23⟩ := Kd.R_slice HO_7.out
      subst eo23
      go_upto_region 14 with (first | ((with_reducible refine gate_callee (f := 18) rfl ?_); refine goesL_ (some 36) rfl rfl Try.func18 (by kernel_rfl) rfl #[.slice Ao23 t153.length co23, .int .i64 1] rfl amp_ ?_; (with_reducible refine (laws_markDiagonalS.calls kj4 (fun k_ => some k_ = (.slice Ao23 t153.length co23 : Value).ownBlock) (.slice Ao23 t153.length co23) t153 1 t158 t159 w _ ?side1 ?side2 A17.out).mono ?_); (case side1 => repeat (first | (with_reducible first | exact HB.out | apply below_alloc | apply pw_below_drewN | apply below_drew1) | exact HB.out)); (case side2 => exact Kd.R_tight rfl HO_7.out); rintro e w24 ⟨rfl, hy0, hb, hkp⟩; refine ⟨_, rfl, ?_⟩; have n0_ := Aside0.mk (Kd.R_mono (ok' := fun k_ => some k_ ≠ (.slice Ao23 t153.length co23 : Value).ownBlock) (Kd.R_keptB (HO_5.out) hkp (fun k_ hk_ hs_ => (hk_) hs_)) (fun k_ hk_ => hk_.1)); have n1_ := Aside0.mk (Kd.R_reok rfl hy0 (fun k_ e_ => HO_7.out.1 k_ e_)); have n2_ := Aside0.mk (hb); clear HO_5; clear HO_7; clear HB; have HO_5 := n0_; have HO_7 := n1_; have HB := n2_; clear n0_ n1_ n2_; (try clear hb); (try clear hkp); (try clear hy0)) | ((with_reducible refine gate_callee (f := 19) rfl ?_); refine goesL_ (some 39) rfl rfl Try.func19 (by kernel_rfl) rfl #[.slice Ao23 t159.length co23, .int .i64 1] rfl (by (try simp only [List.map_toArray, List.map_cons, List.map_nil]); first | done | (rw [show t159.length = t153.length from (Kd.R_reads' HO_7.out).1.symm] <;> rfl) | rfl | (simp only [List.length_drop, List.length_take]; rfl)) ?_; (with_reducible refine (laws_heldDiagonalS.calls kj4 _ _ t159 1 t160 _ ?side1 ?side2 A18.out).mono ?_); (case side1 => repeat (first | exact (Kd.R_reads' HO_7.out).2.2 | (with_reducible refine Kd.C_alloc ?_ _) | (with_reducible refine Kd.C_drewN ?_ _) | (with_reducible refine Kd.C_drew ?_))); (case side2 => rw [show t159.length = t153.length from (Kd.R_reads' HO_7.out).1.symm]; exact (Kd.R_reads' HO_7.out).2.1); rintro e w' ⟨rfl, ⟨nd, rfl⟩⟩; refine ⟨_, rfl, ?_⟩) | ((with_reducible refine gate_callee (f := 16) rfl ?_); refine goesL_ (some 48) rfl rfl Try.func16 (by kernel_rfl) rfl #[.int .i64 a0, .int .i64 a1] rfl amp_ ?_; (with_reducible refine (impl_TriangulationOfRank.calls kj4 a0 a1 t161 t162 _ A21.out).mono ?_); rintro e w25 ⟨v163, rfl, ho0, hb⟩; refine ⟨_, rfl, ?_⟩; have n0_ := Aside0.mk (Kd.R_elder' (ra_ HO_5.out) (Kd.R_base ho0) hb); have n1_ := Aside0.mk (Kd.R_elder' (ra_ HO_7.out) (Kd.R_base ho0) hb); have n2_ := Aside0.mk (Kd.R_lower (Kd.R_new' (Kd.R_new' ho0 (Kd.R_lt (ra_ HO_5.out))) (Kd.R_lt (ra_ HO_7.out))) (below_size blw_)); have n3_ := Aside0.mk (below_step blw_ hb); clear HO_5; clear HO_7; clear HB; have HO_5 := n0_; have HO_7 := n1_; have HO164 := n2_; have HB := n3_; clear n0_ n1_ n2_ n3_; (try clear hb); (try clear hb2); (try clear hk); (try clear hi); (try clear ho0)))
      (try simp only [Act.put, List.setIfInBounds_toArray, List.set_cons_zero, List.set_cons_succ])
      go_cut [59] (fun v59 wc => ∃ (kq : Nat) (x59_21 : Bool), v59 = .bool x59_21 ∧ Aside0 (laws_FnExactTriangulationOfRank.j1 kq t159 t158 x59_21 = some r) ∧ Aside0 (kq ≤ kj4) ∧ Aside0 (Kd.R k36 36 wc w.heap.size (fun _ => True) (.slice Ao23 t153.length co23) t159) ∧ Aside0 (Below w.heap.size w wc))
      case first =>
       have H := HC22.out
       clear HC22
       replace H := Option.bind_eq_some_iff.mp H
       obtain ⟨t165, A260, H⟩ := H
       replace H : (if t165 = true then (laws_FnExactTriangulationOfRank.j1 kj4 t159 t158 (t162 != t150)) else (laws_FnExactTriangulationOfRank.j1 kj4 t159 t158 true)) = some r := H
       have A26 := Aside0.mk A260
       clear A260
       by_cases c27 : t165 = true
       ·subst c27
        have H1 : (laws_FnExactTriangulationOfRank.j1 kj4 t159 t158 (t162 != t150)) = some r := by rw [if_pos rfl] at H; exact H
        clear H
        have H := H1
        clear H1
        have H' := Aside0.mk H
        clear H
        obtain ⟨Ao28, co28, eo28⟩ := Kd.R_slice HO164.out
        subst eo28
        obtain ⟨Ao29, co29, eo29⟩ := Kd.R_slice HO_5.out
        subst eo29
        go_wp2_with (first | ((with_reducible refine gate_callee (f := 17) rfl ?_); refine goesL_ (some 53) rfl rfl Try.func17 (by kernel_rfl) rfl #[.slice Ao28 t161.length co28, .slice Ao29 t149.length co29] rfl amp_ ?_; (with_reducible refine (laws_eqDiagonalS.calls kj4 _ _ t161 _ _ t149 true _ ?side1 ?side2 ?side3 ?side4 A26.out).mono ?_); (case side1 => repeat (first | exact (Kd.R_reads' HO164.out).2.2 | (with_reducible refine Kd.C_alloc ?_ _) | (with_reducible refine Kd.C_drewN ?_ _) | (with_reducible refine Kd.C_drew ?_))); (case side2 => exact (Kd.R_reads' HO164.out).2.1); (case side3 => repeat (first | exact (Kd.R_reads' HO_5.out).2.2 | (with_reducible refine Kd.C_alloc ?_ _) | (with_reducible refine Kd.C_drewN ?_ _) | (with_reducible refine Kd.C_drew ?_))); (case side4 => exact (Kd.R_reads' HO_5.out).2.1); rintro e w30 ⟨rfl, hb⟩; refine ⟨_, rfl, ?_⟩; have n0_ := Aside0.mk (Kd.R_below (ra_ HO_5.out) hb); have n1_ := Aside0.mk (Kd.R_below (ra_ HO_7.out) hb); have n2_ := Aside0.mk (Kd.R_below (ra_ HO164.out) hb); have n3_ := Aside0.mk (below_step blw_ hb); clear HO_5; clear HO_7; clear HO164; clear HB; have HO_5 := n0_; have HO_7 := n1_; have HO164 := n2_; have HB := n3_; clear n0_ n1_ n2_ n3_; (try clear hb); (try clear hb2); (try clear hk); (try clear hi)))
        go_meet
        case rel => exact ⟨_, ((t162 != t150)), (by first | rfl | (simp; done) | (simp [*]; done)), H', ⟨by have := HJ4.out; first | omega | exact Nat.le_refl _⟩, ⟨by (with_reducible repeat (first | apply Kd.R_alloc | apply Kd.R_drewN | apply Kd.R_drew)); exact Kd.R_mono HO_7.out (fun _ hk => trivial)⟩, ⟨by repeat (first | (with_reducible first | exact HB.out | apply below_alloc | apply pw_below_drewN | apply below_drew1) | exact HB.out)⟩⟩
       ·replace c27 := Bool.eq_false_iff.mpr c27
        subst c27
        have H1 : (laws_FnExactTriangulationOfRank.j1 kj4 t159 t158 true) = some r := by rw [if_neg (show ¬ (false = true) by decide)] at H; exact H
        clear H
        have H := H1
        clear H1
        have H' := Aside0.mk H
        clear H
        obtain ⟨Ao31, co31, eo31⟩ := Kd.R_slice HO164.out
        subst eo31
        obtain ⟨Ao32, co32, eo32⟩ := Kd.R_slice HO_5.out
        subst eo32
        go_wp2_with (first | ((with_reducible refine gate_callee (f := 17) rfl ?_); refine goesL_ (some 53) rfl rfl Try.func17 (by kernel_rfl) rfl #[.slice Ao31 t161.length co31, .slice Ao32 t149.length co32] rfl amp_ ?_; (with_reducible refine (laws_eqDiagonalS.calls kj4 _ _ t161 _ _ t149 false _ ?side1 ?side2 ?side3 ?side4 A26.out).mono ?_); (case side1 => repeat (first | exact (Kd.R_reads' HO164.out).2.2 | (with_reducible refine Kd.C_alloc ?_ _) | (with_reducible refine Kd.C_drewN ?_ _) | (with_reducible refine Kd.C_drew ?_))); (case side2 => exact (Kd.R_reads' HO164.out).2.1); (case side3 => repeat (first | exact (Kd.R_reads' HO_5.out).2.2 | (with_reducible refine Kd.C_alloc ?_ _) | (with_reducible refine Kd.C_drewN ?_ _) | (with_reducible refine Kd.C_drew ?_))); (case side4 => exact (Kd.R_reads' HO_5.out).2.1); rintro e w33 ⟨rfl, hb⟩; refine ⟨_, rfl, ?_⟩; have n0_ := Aside0.mk (Kd.R_below (ra_ HO_5.out) hb); have n1_ := Aside0.mk (Kd.R_below (ra_ HO_7.out) hb); have n2_ := Aside0.mk (Kd.R_below (ra_ HO164.out) hb); have n3_ := Aside0.mk (below_step blw_ hb); clear HO_5; clear HO_7; clear HO164; clear HB; have HO_5 := n0_; have HO_7 := n1_; have HO164 := n2_; have HB := n3_; clear n0_ n1_ n2_ n3_; (try clear hb); (try clear hb2); (try clear hk); (try clear hi)))
        go_meet
        case rel => exact ⟨_, (true), (by first | rfl | (simp; done) | (simp [*]; done)), H', ⟨by have := HJ4.out; first | omega | exact Nat.le_refl _⟩, ⟨by (with_reducible repeat (first | apply Kd.R_alloc | apply Kd.R_drewN | apply Kd.R_drew)); exact Kd.R_mono HO_7.out (fun _ hk => trivial)⟩, ⟨by repeat (first | (with_reducible first | exact HB.out | apply below_alloc | apply pw_below_drewN | apply below_drew1) | exact HB.out)⟩⟩
      case rest =>
       clear HC22
       try clear c1
       try clear c2
       try clear p2
       try clear c3
       try clear c9
       try clear c15
       try clear c16
       try clear c17
       try clear c18
       try clear c19
       try clear c19b0
       try clear c20
       try clear c20b0
       try clear c20b1
       try clear c27
       try clear p2
       obtain ⟨kq, x59_21, rfl, HA, HJ21, HO_7, HB⟩ := hcut
       have hl7_21 := (Kd.R_reads' HO_7.out).1
       rw [hl7_21] at HO_7
       (try simp only [hl7_21])
       cases kq with
       | zero => exact absurd HA.out (by simp [laws_FnExactTriangulationOfRank.j1])
       | succ kj21 =>
        have H := HA.out
        clear HA
        simp only [laws_FnExactTriangulationOfRank.j1] at H
        by_cases c34 : x59_21 = true
        ·subst c34
         have H1 : (some false) = some r := by rw [if_pos rfl] at H; exact H
         clear H
         have H := H1
         clear H1
         exact absurd (H.trans (congrArg some htrue.out)) (by decide)
        ·replace c34 := Bool.eq_false_iff.mpr c34
         subst c34
         have H1 : ((laws_heldDiagonalS.f kj21 t159 1).bind fun t166 => (if t166 < 0 then (some false) else (if t166 = t158 then (some true) else (some false)))) = some r := by rw [if_neg (show ¬ (false = true) by decide)] at H; exact H
         clear H
         have H := H1
         clear H1
         replace H := Option.bind_eq_some_iff.mp H
         obtain ⟨t166, A350, H⟩ := H
         replace H : (if t166 < 0 then (some false) else (if t166 = t158 then (some true) else (some false))) = some r := H
         have A35 := Aside0.mk A350
         clear A350
         by_cases c36 : t166 < 0
         ·rw [if_pos c36] at H
          have c36b0 : decide (t166 < 0) = true := decide_eq_true c36
          clear c36
          exact absurd (H.trans (congrArg some htrue.out)) (by decide)
         ·rw [if_neg c36] at H
          have c36b0 : decide (t166 < 0) = false := decide_eq_false c36
          clear c36
          by_cases c37 : t166 = t158
          ·rw [if_pos c37] at H
           have c37b0 : (t166 == t158) = true := beq_iff_eq.mpr c37
           have c37b1 : (t166 != t158) = false := bne_eq_false_iff_eq.mpr c37
           clear c37
           obtain rfl := Option.some.inj H
           go_wp2_with (first | ((with_reducible refine gate_callee (f := 19) rfl ?_); refine goesL_ (some 62) rfl rfl Try.func19 (by kernel_rfl) rfl #[.slice Ao23 t159.length co23, .int .i64 1] rfl amp_ ?_; (with_reducible refine (laws_heldDiagonalS.calls kj21 _ _ t159 1 t166 _ ?side1 ?side2 A35.out).mono ?_); (case side1 => repeat (first | exact (Kd.R_reads' HO_7.out).2.2 | (with_reducible refine Kd.C_alloc ?_ _) | (with_reducible refine Kd.C_drewN ?_ _) | (with_reducible refine Kd.C_drew ?_))); (case side2 => exact (Kd.R_reads' HO_7.out).2.1); rintro e w' ⟨rfl, ⟨nd, rfl⟩⟩; refine ⟨_, rfl, ?_⟩))
           go_ret
           exact ⟨by first | rfl | (simp [errW_none, errW_some] <;> rfl) | (simp [*, errW_none, errW_some] <;> rfl), by repeat (first | (with_reducible first | exact HB.out | apply below_alloc | apply pw_below_drewN | apply below_drew1) | exact HB.out)⟩
          ·rw [if_neg c37] at H
           have c37b0 : (t166 == t158) = false := beq_eq_false_iff_ne.mpr c37
           have c37b1 : (t166 != t158) = true := bne_iff_ne.mpr c37
           exact absurd (H.trans (congrArg some htrue.out)) (by decide)
     ·rw [if_neg c20] at H
      have c20b0 : (t160 == t158) = false := beq_eq_false_iff_ne.mpr c20
      have c20b1 : (t160 != t158) = true := bne_iff_ne.mpr c20
      exact absurd (H.trans (congrArg some htrue.out)) (by decide)

/-- THE ONE PURE STATEMENT of laws_FnExactTriangulationOfRank: yours. -/
def laws_FnExactTriangulationOfRank.Pure : Prop := ∀ (a0 : Int) (a1 : Int), (Lit.int .i64 a0).wf = true → (Lit.int .i64 a1).wf = true → ∃ k, laws_FnExactTriangulationOfRank.f k a0 a1 = some true
theorem laws_FnExactTriangulationOfRank.walk (P : laws_FnExactTriangulationOfRank.Pure) (a0 : Int) (a1 : Int) (w : World) (w0 : (Lit.int .i64 a0).wf = true) (w1 : (Lit.int .i64 a1).wf = true) :
  Calls Try.prog 3 #[.int .i64 a0, .int .i64 a1] w fun e w' => e = .returned (.bool true) ∧ Below w.heap.size w w' := by
 obtain ⟨k, h⟩ := P a0 a1 w0 w1
 refine (laws_FnExactTriangulationOfRank.calls k a0 a1 true w h).mono ?_
 rintro e w' ⟨rfl, hd⟩
 exact ⟨rfl, hd⟩

end Go.Proofs.Ytkipgbakoljaeaa.PFnExactTriangulationOfRank
