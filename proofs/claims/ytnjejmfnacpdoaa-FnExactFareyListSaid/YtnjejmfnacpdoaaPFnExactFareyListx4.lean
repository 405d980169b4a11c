-- WRITTEN BY A PROGRAM OF THIS WORK (wip/tools/ppatch.py) for this claim.
import Derived.Test.YtnjejmfnacpdoaaPFnExactFareyListx0
import Derived.Test.YtnjejmfnacpdoaaPFnExactFareyListx1
import Derived.Test.YtnjejmfnacpdoaaPFnExactFareyListx2
import Derived.Test.YtnjejmfnacpdoaaPFnExactFareyListx3
namespace Go.Proofs.Ytnjejmfnacpdoaa.PFnExactFareyList
open Go.RowKit Go.Proofs.YtnjejmfnacpdoaaW.PrintWords Go.Proofs.YtnjejmfnacpdoaaW.PrintLast Go.Proofs.YtnjejmfnacpdoaaW.PrintMore
attribute [local go_sem] max2_int min2_int max_two min_two max_three min_three max_four min_four   -- for this text's walks alone
set_option linter.unusedVariables false
set_option linter.unusedSimpArgs false

/-! ### laws_FnExactFareyList: function 3 -/
mutual
def laws_FnExactFareyList.j0 : Nat → Int → List (S32) → Bool → List (S32) → Bool → Option (Bool)
 | 0, _, _, _, _, _ => none
 | k + 1, x0, x3, x4, x5, x29 => if x29 = true then (some false) else ((laws_markFractionS.f k x5 1).bind fun bt157 => ((laws_heldFractionS.f k bt157.2 1).bind fun t159 => (if t159 < 0 then (some false) else (if t159 = bt157.1 then ((impl_FareyList.f k x0).bind fun bt160 => ((laws_eqFractionS.f k bt160.1 x3).bind fun t164 => (if t164 = true then (laws_FnExactFareyList.j1 k bt157.2 bt157.1 (bt160.2 != x4)) else (laws_FnExactFareyList.j1 k bt157.2 bt157.1 true)))) else (some false)))))
def laws_FnExactFareyList.j1 : Nat → List (S32) → Int → Bool → Option (Bool)
 | 0, _, _, _ => none
 | k + 1, x5, x7, x54 => if x54 = true then (some false) else ((laws_heldFractionS.f k x5 1).bind fun t165 => (if t165 < 0 then (some false) else (if t165 = x7 then (some true) else (some false))))
end
def laws_FnExactFareyList.f (k : Nat) (a0 : Int) : Option (Bool) := (spec_FareyList.f k a0).bind fun bt148 => ((impl_FareyList.f k a0).bind fun bt152 => ((laws_eqFractionS.f k bt152.1 bt148.1).bind fun t156 => (if t156 = true then (laws_FnExactFareyList.j0 k a0 bt148.1 bt148.2 bt152.1 (bt152.2 != bt148.2)) else (laws_FnExactFareyList.j0 k a0 bt148.1 bt148.2 bt152.1 true))))
theorem laws_FnExactFareyList.mono_l : ∀ k, (∀ y0 y1 y2 y3 y4, LeO (laws_FnExactFareyList.j0 k y0 y1 y2 y3 y4) (laws_FnExactFareyList.j0 (k + 1) y0 y1 y2 y3 y4)) ∧ (∀ y0 y1 y2, LeO (laws_FnExactFareyList.j1 k y0 y1 y2) (laws_FnExactFareyList.j1 (k + 1) y0 y1 y2))
 | 0 => ⟨fun _ _ _ _ _ r h => by simp [laws_FnExactFareyList.j0] at h, fun _ _ _ r h => by simp [laws_FnExactFareyList.j1] at h⟩
 | k + 1 => by
  obtain ⟨ih0, ih1⟩ := laws_FnExactFareyList.mono_l k
  refine ⟨?_, ?_⟩
  ·intro y0 y1 y2 y3 y4
   unfold laws_FnExactFareyList.j0
   repeat' first
   | (with_reducible exact ih0 _ _ _ _ _)
   | (with_reducible exact ih1 _ _ _)
   | (with_reducible exact impl_FareyList.mono _ _)
   | (with_reducible exact laws_eqFractionS.mono _ _ _)
   | (with_reducible exact laws_heldFractionS.mono _ _ _)
   | (with_reducible exact laws_markFractionS.mono _ _ _)
   | (with_reducible exact spec_FareyList.mono _ _)
   | (with_reducible exact LeO.refl _)
   | (with_reducible exact LeO.none _)
   | (with_reducible refine LeO.ite ?_ ?_)
   | (with_reducible refine LeO.bind ?_ (fun _ => ?_))
   | exact ih0 _ _ _ _ _
   | exact ih1 _ _ _
   | exact impl_FareyList.mono _ _
   | exact laws_eqFractionS.mono _ _ _
   | exact laws_heldFractionS.mono _ _ _
   | exact laws_markFractionS.mono _ _ _
   | exact spec_FareyList.mono _ _
   | exact LeO.none _
   | refine LeO.ite ?_ ?_
   | refine LeO.bind ?_ (fun _ => ?_)
  ·intro y0 y1 y2
   unfold laws_FnExactFareyList.j1
   repeat' first
   | (with_reducible exact ih0 _ _ _ _ _)
   | (with_reducible exact ih1 _ _ _)
   | (with_reducible exact impl_FareyList.mono _ _)
   | (with_reducible exact laws_eqFractionS.mono _ _ _)
   | (with_reducible exact laws_heldFractionS.mono _ _ _)
   | (with_reducible exact laws_markFractionS.mono _ _ _)
   | (with_reducible exact spec_FareyList.mono _ _)
   | (with_reducible exact LeO.refl _)
   | (with_reducible exact LeO.none _)
   | (with_reducible refine LeO.ite ?_ ?_)
   | (with_reducible refine LeO.bind ?_ (fun _ => ?_))
   | exact ih0 _ _ _ _ _
   | exact ih1 _ _ _
   | exact impl_FareyList.mono _ _
   | exact laws_eqFractionS.mono _ _ _
   | exact laws_heldFractionS.mono _ _ _
   | exact laws_markFractionS.mono _ _ _
   | exact spec_FareyList.mono _ _
   | exact LeO.none _
   | refine LeO.ite ?_ ?_
   | refine LeO.bind ?_ (fun _ => ?_)
theorem laws_FnExactFareyList.mono : ∀ a0 k, LeO (laws_FnExactFareyList.f k a0) (laws_FnExactFareyList.f (k + 1) a0) := by
 intro a0 k
 obtain ⟨ih0, ih1⟩ := laws_FnExactFareyList.mono_l k
 unfold laws_FnExactFareyList.f
 repeat' first
   | (with_reducible exact ih0 _ _ _ _ _)
   | (with_reducible exact ih1 _ _ _)
   | (with_reducible exact impl_FareyList.mono _ _)
   | (with_reducible exact laws_eqFractionS.mono _ _ _)
   | (with_reducible exact laws_heldFractionS.mono _ _ _)
   | (with_reducible exact laws_markFractionS.mono _ _ _)
   | (with_reducible exact spec_FareyList.mono _ _)
   | (with_reducible exact LeO.refl _)
   | (with_reducible exact LeO.none _)
   | (with_reducible refine LeO.ite ?_ ?_)
   | (with_reducible refine LeO.bind ?_ (fun _ => ?_))
   | exact ih0 _ _ _ _ _
   | exact ih1 _ _ _
   | exact impl_FareyList.mono _ _
   | exact laws_eqFractionS.mono _ _ _
   | exact laws_heldFractionS.mono _ _ _
   | exact laws_markFractionS.mono _ _ _
   | exact spec_FareyList.mono _ _
   | exact LeO.none _
   | refine LeO.ite ?_ ?_
   | refine LeO.bind ?_ (fun _ => ?_)
set_option maxHeartbeats 8000000 in
set_option maxRecDepth 100000 in
theorem laws_FnExactFareyList.calls (k : Nat) (a0 : Int) (r : Bool) (w : World) (h : laws_FnExactFareyList.f k a0 = some r) (htrue : Aside0 (r = true) := by exact ⟨rfl⟩) :
  Calls Try.prog 3 #[.int .i64 a0] w fun e w' => e = .returned (.bool r) ∧ Below w.heap.size w w' := by
 have HB := Aside0.mk (Below.refl w.heap.size w)
 have H : ((spec_FareyList.f k a0).bind fun bt148 => ((impl_FareyList.f k a0).bind fun bt152 => ((laws_eqFractionS.f k bt152.1 bt148.1).bind fun t156 => (if t156 = true then (laws_FnExactFareyList.j0 k a0 bt148.1 bt148.2 bt152.1 (bt152.2 != bt148.2)) else (laws_FnExactFareyList.j0 k a0 bt148.1 bt148.2 bt152.1 true))))) = some r := h
 clear h
 replace H := Option.bind_eq_some_iff.mp H
 obtain ⟨⟨t148, t149⟩, A20, H⟩ := H
 replace H : ((impl_FareyList.f k a0).bind fun bt152 => ((laws_eqFractionS.f k bt152.1 t148).bind fun t156 => (if t156 = true then (laws_FnExactFareyList.j0 k a0 t148 t149 bt152.1 (bt152.2 != t149)) else (laws_FnExactFareyList.j0 k a0 t148 t149 bt152.1 true)))) = some r := H
 have A2 := Aside0.mk A20
 clear A20
 replace H := Option.bind_eq_some_iff.mp H
 obtain ⟨⟨t152, t153⟩, A30, H⟩ := H
 replace H : ((laws_eqFractionS.f k t152 t148).bind fun t156 => (if t156 = true then (laws_FnExactFareyList.j0 k a0 t148 t149 t152 (t153 != t149)) else (laws_FnExactFareyList.j0 k a0 t148 t149 t152 true))) = some r := H
 have A3 := Aside0.mk A30
 clear A30
 have HC4 := Aside0.mk H
 clear H
 go_enter Try.func3, Try.ntmps3
 go_upto_region 3 with (first | ((with_reducible refine gate_callee (f := 15) rfl ?_); refine goesL_ (some 13) rfl rfl Try.func15 (by kernel_rfl) rfl #[.int .i64 a0] rfl amp_ ?_; (with_reducible refine (spec_FareyList.calls k a0 t148 t149 _ A2.out).mono ?_); rintro e w5 ⟨v150, rfl, ho0, hb⟩; refine ⟨_, rfl, ?_⟩; have n0_ := Aside0.mk (Kd.R_lower ho0 (below_size blw_)); have n1_ := Aside0.mk (below_step blw_ hb); clear HB; have HO151 := n0_; have HB := n1_; clear n0_ n1_; (try clear hb); (try clear hb2); (try clear hk); (try clear hi); (try clear ho0)) | ((with_reducible refine gate_callee (f := 16) rfl ?_); refine goesL_ (some 18) rfl rfl Try.func16 (by kernel_rfl) rfl #[.int .i64 a0] rfl amp_ ?_; (with_reducible refine (impl_FareyList.calls k a0 t152 t153 _ A3.out).mono ?_); rintro e w6 ⟨v154, rfl, ho0, hb⟩; refine ⟨_, rfl, ?_⟩; have n0_ := Aside0.mk (Kd.R_elder' (ra_ HO151.out) (Kd.R_base ho0) hb); have n1_ := Aside0.mk (Kd.R_lower (Kd.R_new' ho0 (Kd.R_lt (ra_ HO151.out))) (below_size blw_)); have n2_ := Aside0.mk (below_step blw_ hb); clear HO151; clear HB; have HO151 := n0_; have HO155 := n1_; have HB := n2_; clear n0_ n1_ n2_; (try clear hb); (try clear hb2); (try clear hk); (try clear hi); (try clear ho0)))
 (try simp only [Act.put, List.setIfInBounds_toArray, List.set_cons_zero, List.set_cons_succ])
 go_cut [29] (fun v29 wc => ∃ (kq : Nat) (x29_3 : Bool), v29 = .bool x29_3 ∧ Aside0 (laws_FnExactFareyList.j0 kq a0 t148 t149 t152 x29_3 = some r) ∧ Aside0 (kq ≤ k) ∧ Aside0 (Kd.R k32 32 wc w.heap.size (fun k_ => some k_ ≠ (v154 : Value).ownBlock) v150 t148) ∧ Aside0 (Kd.R k32 32 wc w.heap.size (fun k_ => some k_ ≠ (v150 : Value).ownBlock) v154 t152) ∧ Aside0 (Below w.heap.size w wc))
 case first =>
  have H := HC4.out
  clear HC4
  replace H := Option.bind_eq_some_iff.mp H
  obtain ⟨t156, A70, H⟩ := H
  replace H : (if t156 = true then (laws_FnExactFareyList.j0 k a0 t148 t149 t152 (t153 != t149)) else (laws_FnExactFareyList.j0 k a0 t148 t149 t152 true)) = some r := H
  have A7 := Aside0.mk A70
  clear A70
  by_cases c8 : t156 = true
  ·subst c8
   have H1 : (laws_FnExactFareyList.j0 k a0 t148 t149 t152 (t153 != t149)) = some r := by rw [if_pos rfl] at H; exact H
   clear H
   have H := H1
   clear H1
   have H' := Aside0.mk H
   clear H
   obtain ⟨Ao9, co9, eo9⟩ := Kd.R_slice HO155.out
   subst eo9
   obtain ⟨Ao10, co10, eo10⟩ := Kd.R_slice HO151.out
   subst eo10
   go_wp2_with (first | ((with_reducible refine gate_callee (f := 17) rfl ?_); refine goesL_ (some 23) rfl rfl Try.func17 (by kernel_rfl) rfl #[.slice Ao9 t152.length co9, .slice Ao10 t148.length co10] rfl amp_ ?_; (with_reducible refine (laws_eqFractionS.calls k _ _ t152 _ _ t148 true _ ?side1 ?side2 ?side3 ?side4 A7.out).mono ?_); (case side1 => repeat (first | exact (Kd.R_reads' HO155.out).2.2 | (with_reducible refine Kd.C_alloc ?_ _) | (with_reducible refine Kd.C_drewN ?_ _) | (with_reducible refine Kd.C_drew ?_))); (case side2 => exact (Kd.R_reads' HO155.out).2.1); (case side3 => repeat (first | exact (Kd.R_reads' HO151.out).2.2 | (with_reducible refine Kd.C_alloc ?_ _) | (with_reducible refine Kd.C_drewN ?_ _) | (with_reducible refine Kd.C_drew ?_))); (case side4 => exact (Kd.R_reads' HO151.out).2.1); rintro e w11 ⟨rfl, hb⟩; refine ⟨_, rfl, ?_⟩; have n0_ := Aside0.mk (Kd.R_below (ra_ HO151.out) hb); have n1_ := Aside0.mk (Kd.R_below (ra_ HO155.out) hb); have n2_ := Aside0.mk (below_step blw_ hb); clear HO151; clear HO155; clear HB; have HO151 := n0_; have HO155 := n1_; have HB := n2_; clear n0_ n1_ n2_; (try clear hb); (try clear hb2); (try clear hk); (try clear hi)))
   go_meet
   case rel => exact ⟨_, ((t153 != t149)), (by first | rfl | (simp; done) | (simp [*]; done)), H', ⟨by first | omega | exact Nat.le_refl _⟩, ⟨by (with_reducible repeat (first | apply Kd.R_alloc | apply Kd.R_drewN | apply Kd.R_drew)); exact Kd.R_mono HO151.out (fun _ hk => hk.2)⟩, ⟨by (with_reducible repeat (first | apply Kd.R_alloc | apply Kd.R_drewN | apply Kd.R_drew)); exact Kd.R_mono HO155.out (fun _ hk => hk.2)⟩, ⟨by repeat (first | (with_reducible first | exact HB.out | apply below_alloc | apply pw_below_drewN | apply below_drew1) | exact HB.out)⟩⟩
  ·replace c8 := Bool.eq_false_iff.mpr c8
   subst c8
   have H1 : (laws_FnExactFareyList.j0 k a0 t148 t149 t152 true) = some r := by rw [if_neg (show ¬ (false = true) by decide)] at H; exact H
   clear H
   have H := H1
   clear H1
   have H' := Aside0.mk H
   clear H
   obtain ⟨Ao12, co12, eo12⟩ := Kd.R_slice HO155.out
   subst eo12
   obtain ⟨Ao13, co13, eo13⟩ := Kd.R_slice HO151.out
   subst eo13
   go_wp2_with (first | ((with_reducible refine gate_callee (f := 17) rfl ?_); refine goesL_ (some 23) rfl rfl Try.func17 (by kernel_rfl) rfl #[.slice Ao12 t152.length co12, .slice Ao13 t148.length co13] rfl amp_ ?_; (with_reducible refine (laws_eqFractionS.calls k _ _ t152 _ _ t148 false _ ?side1 ?side2 ?side3 ?side4 A7.out).mono ?_); (case side1 => repeat (first | exact (Kd.R_reads' HO155.out).2.2 | (with_reducible refine Kd.C_alloc ?_ _) | (with_reducible refine Kd.C_drewN ?_ _) | (with_reducible refine Kd.C_drew ?_))); (case side2 => exact (Kd.R_reads' HO155.out).2.1); (case side3 => repeat (first | exact (Kd.R_reads' HO151.out).2.2 | (with_reducible refine Kd.C_alloc ?_ _) | (with_reducible refine Kd.C_drewN ?_ _) | (with_reducible refine Kd.C_drew ?_))); (case side4 => exact (Kd.R_reads' HO151.out).2.1); rintro e w14 ⟨rfl, hb⟩; refine ⟨_, rfl, ?_⟩; have n0_ := Aside0.mk (Kd.R_below (ra_ HO151.out) hb); have n1_ := Aside0.mk (Kd.R_below (ra_ HO155.out) hb); have n2_ := Aside0.mk (below_step blw_ hb); clear HO151; clear HO155; clear HB; have HO151 := n0_; have HO155 := n1_; have HB := n2_; clear n0_ n1_ n2_; (try clear hb); (try clear hb2); (try clear hk); (try clear hi)))
   go_meet
   case rel => exact ⟨_, (true), (by first | rfl | (simp; done) | (simp [*]; done)), H', ⟨by first | omega | exact Nat.le_refl _⟩, ⟨by (with_reducible repeat (first | apply Kd.R_alloc | apply Kd.R_drewN | apply Kd.R_drew)); exact Kd.R_mono HO151.out (fun _ hk => hk.2)⟩, ⟨by (with_reducible repeat (first | apply Kd.R_alloc | apply Kd.R_drewN | apply Kd.R_drew)); exact Kd.R_mono HO155.out (fun _ hk => hk.2)⟩, ⟨by repeat (first | (with_reducible first | exact HB.out | apply below_alloc | apply pw_below_drewN | apply below_drew1) | exact HB.out)⟩⟩
 case rest =>
  clear HC4
  try clear c1
  try clear p2
  try clear c3
  try clear c8
  obtain ⟨kq, x29_3, rfl, HA, HJ3, HO_3, HO_5, HB⟩ := hcut
  cases kq with
  | zero => exact absurd HA.out (by simp [laws_FnExactFareyList.j0])
  | succ kj3 =>
   have H := HA.out
   clear HA
   simp only [laws_FnExactFareyList.j0] at H
   by_cases c15 : x29_3 = true
   ·subst c15
    have H1 : (some false) = some r := by rw [if_pos rfl] at H; exact H
    clear H
    have H := H1
    clear H1
    exact absurd (H.trans (congrArg some htrue.out)) (by decide)
   ·replace c15 := Bool.eq_false_iff.mpr c15
    subst c15
    have H1 : ((laws_markFractionS.f kj3 t152 1).bind fun bt157 => ((laws_heldFractionS.f kj3 bt157.2 1).bind fun t159 => (if t159 < 0 then (some false) else (if t159 = bt157.1 then ((impl_FareyList.f kj3 a0).bind fun bt160 => ((laws_eqFractionS.f kj3 bt160.1 t148).bind fun t164 => (if t164 = true then (laws_FnExactFareyList.j1 kj3 bt157.2 bt157.1 (bt160.2 != t149)) else (laws_FnExactFareyList.j1 kj3 bt157.2 bt157.1 true)))) else (some false))))) = some r := by rw [if_neg (show ¬ (false = true) by decide)] at H; exact H
    clear H
    have H := H1
    clear H1
    replace H := Option.bind_eq_some_iff.mp H
    obtain ⟨⟨t157, t158⟩, A160, H⟩ := H
    replace H : ((laws_heldFractionS.f kj3 t158 1).bind fun t159 => (if t159 < 0 then (some false) else (if t159 = t157 then ((impl_FareyList.f kj3 a0).bind fun bt160 => ((laws_eqFractionS.f kj3 bt160.1 t148).bind fun t164 => (if t164 = true then (laws_FnExactFareyList.j1 kj3 t158 t157 (bt160.2 != t149)) else (laws_FnExactFareyList.j1 kj3 t158 t157 true)))) else (some false)))) = some r := H
    have A16 := Aside0.mk A160
    clear A160
    replace H := Option.bind_eq_some_iff.mp H
    obtain ⟨t159, A170, H⟩ := H
    replace H : (if t159 < 0 then (some false) else (if t159 = t157 then ((impl_FareyList.f kj3 a0).bind fun bt160 => ((laws_eqFractionS.f kj3 bt160.1 t148).bind fun t164 => (if t164 = true then (laws_FnExactFareyList.j1 kj3 t158 t157 (bt160.2 != t149)) else (laws_FnExactFareyList.j1 kj3 t158 t157 true)))) else (some false))) = some r := H
    have A17 := Aside0.mk A170
    clear A170
    by_cases c18 : t159 < 0
    ·rw [if_pos c18] at H
     have c18b0 : decide (t159 < 0) = true := decide_eq_true c18
     clear c18
     exact absurd (H.trans (congrArg some htrue.out)) (by decide)
    ·rw [if_neg c18] at H
     have c18b0 : decide (t159 < 0) = false := decide_eq_false c18
     clear c18
     by_cases c19 : t159 = t157
     ·rw [if_pos c19] at H
      have c19b0 : (t159 == t157) = true := beq_iff_eq.mpr c19
      have c19b1 : (t159 != t157) = false := bne_eq_false_iff_eq.mpr c19
      clear c19
      replace H := Option.bind_eq_some_iff.mp H
      obtain ⟨⟨t160, t161⟩, A200, H⟩ := H
      replace H : ((laws_eqFractionS.f kj3 t160 t148).bind fun t164 => (if t164 = true then (laws_FnExactFareyList.j1 kj3 t158 t157 (t161 != t149)) else (laws_FnExactFareyList.j1 kj3 t158 t157 true))) = some r := H
      have A20 := Aside0.mk A200
      clear A200
      have HC21 := Aside0.mk H
      clear H
      obtain ⟨Ao22, co22, eo22⟩ := Kd.R_slice HO_5.out
      subst eo22
      go_upto_region 14 with (first | ((with_reducible refine gate_callee (f := 18) rfl ?_); refine goesL_ (some 32) rfl rfl Try.func18 (by kernel_rfl) rfl #[.slice Ao22 t152.length co22, .int .i64 1] rfl amp_ ?_; (with_reducible refine (laws_markFractionS.calls kj3 (fun k_ => some k_ = (.slice Ao22 t152.length co22 : Value).ownBlock) (.slice Ao22 t152.length co22) t152 1 t157 t158 w _ ?side1 ?side2 A16.out).mono ?_); (case side1 => repeat (first | (with_reducible first | exact HB.out | apply below_alloc | apply pw_below_drewN | apply below_drew1) | exact HB.out)); (case side2 => exact Kd.R_tight rfl HO_5.out); rintro e w23 ⟨rfl, hy0, hb, hkp⟩; refine ⟨_, rfl, ?_⟩; have n0_ := Aside0.mk (Kd.R_mono (ok' := fun k_ => some k_ ≠ (.slice Ao22 t152.length co22 : Value).ownBlock) (Kd.R_keptB (HO_3.out) hkp (fun k_ hk_ hs_ => (hk_) hs_)) (fun k_ hk_ => hk_.1)); have n1_ := Aside0.mk (Kd.R_reok rfl hy0 (fun k_ e_ => HO_5.out.1 k_ e_)); have n2_ := Aside0.mk (hb); clear HO_3; clear HO_5; clear HB; have HO_3 := n0_; have HO_5 := n1_; have HB := n2_; clear n0_ n1_ n2_; (try clear hb); (try clear hkp); (try clear hy0)) | ((with_reducible refine gate_callee (f := 19) rfl ?_); refine goesL_ (some 35) rfl rfl Try.func19 (by kernel_rfl) rfl #[.slice Ao22 t158.length co22, .int .i64 1] rfl (by (try simp only [List.map_toArray, List.map_cons, List.map_nil]); first | done | (rw [show t158.length = t152.length from (Kd.R_reads' HO_5.out).1.symm] <;> rfl) | rfl | (simp only [List.length_drop, List.length_take]; rfl)) ?_; (with_reducible refine (laws_heldFractionS.calls kj3 _ _ t158 1 t159 _ ?side1 ?side2 A17.out).mono ?_); (case side1 => repeat (first | exact (Kd.R_reads' HO_5.out).2.2 | (with_reducible refine Kd.C_alloc ?_ _) | (with_reducible refine Kd.C_drewN ?_ _) | (with_reducible refine Kd.C_drew ?_))); (case side2 => rw [show t158.length = t152.length from (Kd.R_reads' HO_5.out).1.symm]; exact (Kd.R_reads' HO_5.out).2.1); rintro e w' ⟨rfl, ⟨nd, rfl⟩⟩; refine ⟨_, rfl, ?_⟩) | ((with_reducible refine gate_callee (f := 16) rfl ?_); refine goesL_ (some 43) rfl rfl Try.func16 (by kernel_rfl) rfl #[.int .i64 a0] rfl amp_ ?_; (with_reducible refine (impl_FareyList.calls kj3 a0 t160 t161 _ A20.out).mono ?_); rintro e w24 ⟨v162, rfl, ho0, hb⟩; refine ⟨_, rfl, ?_⟩; have n0_ := Aside0.mk (Kd.R_elder' (ra_ HO_3.out) (Kd.R_base ho0) hb); have n1_ := Aside0.mk (Kd.R_elder' (ra_ HO_5.out) (Kd.R_base ho0) hb); have n2_ := Aside0.mk (Kd.R_lower (Kd.R_new' (Kd.R_new' ho0 (Kd.R_lt (ra_ HO_3.out))) (Kd.R_lt (ra_ HO_5.out))) (below_size blw_)); have n3_ := Aside0.mk (below_step blw_ hb); clear HO_3; clear HO_5; clear HB; have HO_3 := n0_; have HO_5 := n1_; have HO163 := n2_; have HB := n3_; clear n0_ n1_ n2_ n3_; (try clear hb); (try clear hb2); (try clear hk); (try clear hi); (try clear ho0)))
      (try simp only [Act.put, List.setIfInBounds_toArray, List.set_cons_zero, List.set_cons_succ])
      go_cut [54] (fun v54 wc => ∃ (kq : Nat) (x54_20 : Bool), v54 = .bool x54_20 ∧ Aside0 (laws_FnExactFareyList.j1 kq t158 t157 x54_20 = some r) ∧ Aside0 (kq ≤ kj3) ∧ Aside0 (Kd.R k32 32 wc w.heap.size (fun _ => True) (.slice Ao22 t152.length co22) t158) ∧ Aside0 (Below w.heap.size w wc))
      case first =>
       have H := HC21.out
       clear HC21
       replace H := Option.bind_eq_some_iff.mp H
       obtain ⟨t164, A250, H⟩ := H
       replace H : (if t164 = true then (laws_FnExactFareyList.j1 kj3 t158 t157 (t161 != t149)) else (laws_FnExactFareyList.j1 kj3 t158 t157 true)) = some r := H
       have A25 := Aside0.mk A250
       clear A250
       by_cases c26 : t164 = true
       ·subst c26
        have H1 : (laws_FnExactFareyList.j1 kj3 t158 t157 (t161 != t149)) = some r := by rw [if_pos rfl] at H; exact H
        clear H
        have H := H1
        clear H1
        have H' := Aside0.mk H
        clear H
        obtain ⟨Ao27, co27, eo27⟩ := Kd.R_slice HO163.out
        subst eo27
        obtain ⟨Ao28, co28, eo28⟩ := Kd.R_slice HO_3.out
        subst eo28
        go_wp2_with (first | ((with_reducible refine gate_callee (f := 17) rfl ?_); refine goesL_ (some 48) rfl rfl Try.func17 (by kernel_rfl) rfl #[.slice Ao27 t160.length co27, .slice Ao28 t148.length co28] rfl amp_ ?_; (with_reducible refine (laws_eqFractionS.calls kj3 _ _ t160 _ _ t148 true _ ?side1 ?side2 ?side3 ?side4 A25.out).mono ?_); (case side1 => repeat (first | exact (Kd.R_reads' HO163.out).2.2 | (with_reducible refine Kd.C_alloc ?_ _) | (with_reducible refine Kd.C_drewN ?_ _) | (with_reducible refine Kd.C_drew ?_))); (case side2 => exact (Kd.R_reads' HO163.out).2.1); (case side3 => repeat (first | exact (Kd.R_reads' HO_3.out).2.2 | (with_reducible refine Kd.C_alloc ?_ _) | (with_reducible refine Kd.C_drewN ?_ _) | (with_reducible refine Kd.C_drew ?_))); (case side4 => exact (Kd.R_reads' HO_3.out).2.1); rintro e w29 ⟨rfl, hb⟩; refine ⟨_, rfl, ?_⟩; have n0_ := Aside0.mk (Kd.R_below (ra_ HO_3.out) hb); have n1_ := Aside0.mk (Kd.R_below (ra_ HO_5.out) hb); have n2_ := Aside0.mk (Kd.R_below (ra_ HO163.out) hb); have n3_ := Aside0.mk (below_step blw_ hb); clear HO_3; clear HO_5; clear HO163; clear HB; have HO_3 := n0_; have HO_5 := n1_; have HO163 := n2_; have HB := n3_; clear n0_ n1_ n2_ n3_; (try clear hb); (try clear hb2); (try clear hk); (try clear hi)))
        go_meet
        case rel => exact ⟨_, ((t161 != t149)), (by first | rfl | (simp; done) | (simp [*]; done)), H', ⟨by have := HJ3.out; first | omega | exact Nat.le_refl _⟩, ⟨by (with_reducible repeat (first | apply Kd.R_alloc | apply Kd.R_drewN | apply Kd.R_drew)); exact Kd.R_mono HO_5.out (fun _ hk => trivial)⟩, ⟨by repeat (first | (with_reducible first | exact HB.out | apply below_alloc | apply pw_below_drewN | apply below_drew1) | exact HB.out)⟩⟩
       ·replace c26 := Bool.eq_false_iff.mpr c26
        subst c26
        have H1 : (laws_FnExactFareyList.j1 kj3 t158 t157 true) = some r := by rw [if_neg (show ¬ (false = true) by decide)] at H; exact H
        clear H
        have H := H1
        clear H1
        have H' := Aside0.mk H
        clear H
        obtain ⟨Ao30, co30, eo30⟩ := Kd.R_slice HO163.out
        subst eo30
        obtain ⟨Ao31, co31, eo31⟩ := Kd.R_slice HO_3.out
        subst eo31
        go_wp2_with (first | ((with_reducible refine gate_callee (f := 17) rfl ?_); refine goesL_ (some 48) rfl rfl Try.func17 (by kernel_rfl) rfl #[.slice Ao30 t160.length co30, .slice Ao31 t148.length co31] rfl amp_ ?_; (with_reducible refine (laws_eqFractionS.calls kj3 _ _ t160 _ _ t148 false _ ?side1 ?side2 ?side3 ?side4 A25.out).mono ?_); (case side1 => repeat (first | exact (Kd.R_reads' HO163.out).2.2 | (with_reducible refine Kd.C_alloc ?_ _) | (with_reducible refine Kd.C_drewN ?_ _) | (with_reducible refine Kd.C_drew ?_))); (case side2 => exact (Kd.R_reads' HO163.out).2.1); (case side3 => repeat (first | exact (Kd.R_reads' HO_3.out).2.2 | (with_reducible refine Kd.C_alloc ?_ _) | (with_reducible refine Kd.C_drewN ?_ _) | (with_reducible refine Kd.C_drew ?_))); (case side4 => exact (Kd.R_reads' HO_3.out).2.1); rintro e w32 ⟨rfl, hb⟩; refine ⟨_, rfl, ?_⟩; have n0_ := Aside0.mk (Kd.R_below (ra_ HO_3.out) hb); have n1_ := Aside0.mk (Kd.R_below (ra_ HO_5.out) hb); have n2_ := Aside0.mk (Kd.R_below (ra_ HO163.out) hb); have n3_ := Aside0.mk (below_step blw_ hb); clear HO_3; clear HO_5; clear HO163; clear HB; have HO_3 := n0_; have HO_5 := n1_; have HO163 := n2_; have HB := n3_; clear n0_ n1_ n2_ n3_; (try clear hb); (try clear hb2); (try clear hk); (try clear hi)))
        go_meet
        case rel => exact ⟨_, (true), (by first | rfl | (simp; done) | (simp [*]; done)), H', ⟨by have := HJ3.out; first | omega | exact Nat.le_refl _⟩, ⟨by (with_reducible repeat (first | apply Kd.R_alloc | apply Kd.R_drewN | apply Kd.R_drew)); exact Kd.R_mono HO_5.out (fun _ hk => trivial)⟩, ⟨by repeat (first | (with_reducible first | exact HB.out | apply below_alloc | apply pw_below_drewN | apply below_drew1) | exact HB.out)⟩⟩
      case rest =>
       clear HC21
       try clear c1
       try clear c2
       try clear p2
       try clear c3
       try clear c8
       try clear c15
       try clear c16
       try clear c17
       try clear c18
       try clear c18b0
       try clear c19
       try clear c19b0
       try clear c19b1
       try clear c26
       try clear p2
       obtain ⟨kq, x54_20, rfl, HA, HJ20, HO_5, HB⟩ := hcut
       have hl5_20 := (Kd.R_reads' HO_5.out).1
       rw [hl5_20] at HO_5
       (try simp only [hl5_20])
       cases kq with
       | zero => exact absurd HA.out (by simp [laws_FnExactFareyList.j1])
       | succ kj20 =>
        have H := HA.out
        clear HA
        simp only [laws_FnExactFareyList.j1] at H
        by_cases c33 : x54_20 = true
        ·subst c33
         have H1 : (some false) = some r := by rw [if_pos rfl] at H; exact H
         clear H
         have H := H1
         clear H1
         exact absurd (H.trans (congrArg some htrue.out)) (by decide)
        ·replace c33 := Bool.eq_false_iff.mpr c33
         subst c33
         have H1 : ((laws_heldFractionS.f kj20 t158 1).bind fun t165 => (if t165 < 0 then (some false) else (if t165 = t157 then (some true) else (some false)))) = some r := by rw [if_neg (show ¬ (false = true) by decide)] at H; exact H
         clear H
         have H := H1
         clear H1
         replace H := Option.bind_eq_some_iff.mp H
         obtain ⟨t165, A340, H⟩ := H
         replace H : (if t165 < 0 then (some false) else (if t165 = t157 then (some true) else (some false))) = some r := H
         have A34 := Aside0.mk A340
         clear A340
         by_cases c35 : t165 < 0
         ·rw [if_pos c35] at H
          have c35b0 : decide (t165 < 0) = true := decide_eq_true c35
          clear c35
          exact absurd (H.trans (congrArg some htrue.out)) (by decide)
         ·rw [if_neg c35] at H
          have c35b0 : decide (t165 < 0) = false := decide_eq_false c35
          clear c35
          by_cases c36 : t165 = t157
          ·rw [if_pos c36] at H
           have c36b0 : (t165 == t157) = true := beq_iff_eq.mpr c36
           have c36b1 : (t165 != t157) = false := bne_eq_false_iff_eq.mpr c36
           clear c36
           obtain rfl := Option.some.inj H
           go_wp2_with (first | ((with_reducible refine gate_callee (f := 19) rfl ?_); refine goesL_ (some 57) rfl rfl Try.func19 (by kernel_rfl) rfl #[.slice Ao22 t158.length co22, .int .i64 1] rfl amp_ ?_; (with_reducible refine (laws_heldFractionS.calls kj20 _ _ t158 1 t165 _ ?side1 ?side2 A34.out).mono ?_); (case side1 => repeat (first | exact (Kd.R_reads' HO_5.out).2.2 | (with_reducible refine Kd.C_alloc ?_ _) | (with_reducible refine Kd.C_drewN ?_ _) | (with_reducible refine Kd.C_drew ?_))); (case side2 => exact (Kd.R_reads' HO_5.out).2.1); rintro e w' ⟨rfl, ⟨nd, rfl⟩⟩; refine ⟨_, rfl, ?_⟩))
           go_ret
           exact ⟨by first | rfl | (simp [errW_none, errW_some] <;> rfl) | (simp [*, errW_none, errW_some] <;> rfl), by repeat (first | (with_reducible first | exact HB.out | apply below_alloc | apply pw_below_drewN | apply below_drew1) | exact HB.out)⟩
          ·rw [if_neg c36] at H
           have c36b0 : (t165 == t157) = false := beq_eq_false_iff_ne.mpr c36
           have c36b1 : (t165 != t157) = true := bne_iff_ne.mpr c36
           exact absurd (H.trans (congrArg some htrue.out)) (by decide)
     ·rw [if_neg c19] at H
      have c19b0 : (t159 == t157) = false := beq_eq_false_iff_ne.mpr c19
      have c19b1 : (t159 != t157) = true := bne_iff_ne.mpr c19
      exact absurd (H.trans (congrArg some htrue.out)) (by decide)

/-- THE ONE PURE STATEMENT of laws_FnExactFareyList: yours. -/
def laws_FnExactFareyList.Pure : Prop := ∀ (a0 : Int), (Lit.int .i64 a0).wf = true → ∃ k, laws_FnExactFareyList.f k a0 = some true
theorem laws_FnExactFareyList.walk (P : laws_FnExactFareyList.Pure) (a0 : Int) (w : World) (w0 : (Lit.int .i64 a0).wf = true) :
  Calls Try.prog 3 #[.int .i64 a0] w fun e w' => e = .returned (.bool true) ∧ Below w.heap.size w w' := by
 obtain ⟨k, h⟩ := P a0 w0
 refine (laws_FnExactFareyList.calls k a0 true w h).mono ?_
 rintro e w' ⟨rfl, hd⟩
 exact ⟨rfl, hd⟩

end Go.Proofs.Ytnjejmfnacpdoaa.PFnExactFareyList
