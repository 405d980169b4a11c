-- WRITTEN BY A PROGRAM OF THIS WORK (wip/tools/ppatch.py) for this claim.
import Derived.Test.YtgblginphicacaaDoorPFnExactFirstFlipsx0
import Derived.Test.YtgblginphicacaaDoorPFnExactFirstFlipsx1
import Derived.Test.YtgblginphicacaaDoorPFnExactFirstFlipsx3
import Derived.Test.YtgblginphicacaaDoorPFnExactFirstFlipsx4
import Derived.Test.YtgblginphicacaaDoorPFnExactFirstFlipsx6
import Derived.Test.YtgblginphicacaaDoorPFnExactFirstFlipsx7
import Derived.Test.YtgblginphicacaaDoorPFnExactFirstFlipsx8
namespace Go.Proofs.YtgblginphicacaaDoor.PFnExactFirstFlips
open Go.RowKit Go.Proofs.YtgblginphicacaaDoorW.PrintWords Go.Proofs.YtgblginphicacaaDoorW.PrintLast Go.Proofs.YtgblginphicacaaDoorW.PrintMore
attribute [local go_sem] max2_int min2_int max_two min_two max_three min_three max_four min_four   -- for this text's walks alone
set_option linter.unusedVariables false
set_option linter.unusedSimpArgs false

attribute [local go_sem high] eqA49
/-! ### spec_flSmall: function 27 -/
def spec_flSmall.f (k : Nat) (a0 : Int) (l1 : List (S49)) : Option (Bool) := if a0 ≤ 8 then ((spec_poGood.f k a0 l1).bind fun t249 => (some t249)) else (some false)
theorem spec_flSmall.mono : ∀ a0 a1 k, LeO (spec_flSmall.f k a0 a1) (spec_flSmall.f (k + 1) a0 a1) := by
 intro a0 a1 k
 unfold spec_flSmall.f
 repeat' first
   | (with_reducible exact spec_poGood.mono _ _ _)
   | (with_reducible exact LeO.refl _)
   | (with_reducible exact LeO.none _)
   | (with_reducible refine LeO.ite ?_ ?_)
   | (with_reducible refine LeO.bind ?_ (fun _ => ?_))
   | exact spec_poGood.mono _ _ _
   | exact LeO.none _
   | refine LeO.ite ?_ ?_
   | refine LeO.bind ?_ (fun _ => ?_)
set_option maxHeartbeats 8000000 in
set_option maxRecDepth 100000 in
theorem spec_flSmall.calls (k : Nat) (a0 : Int) (A1 : Option Addr) (c1 : Nat) (l1 : List (S49)) (r : Bool) (w : World) (hr1 : Kd.C k49 w A1 l1.length l1) (hc1 : l1.length ≤ c1) (h : spec_flSmall.f k a0 l1 = some r) :
  Calls Tryd.prog 27 #[.int .i64 a0, .slice A1 l1.length c1] w fun e w' => e = .returned (.bool r) ∧ Below w.heap.size w w' := by
 have HR1 := Aside0.mk hr1
 have HC1 := Aside0.mk hc1
 clear hr1 hc1
 have HB := Aside0.mk (Below.refl w.heap.size w)
 have H : (if a0 ≤ 8 then ((spec_poGood.f k a0 l1).bind fun t249 => (some t249)) else (some false)) = some r := h
 clear h
 by_cases c3 : a0 ≤ 8
 ·rw [if_pos c3] at H
  have c3b0 : decide (a0 ≤ 8) = true := decide_eq_true c3
  clear c3
  replace H := Option.bind_eq_some_iff.mp H
  obtain ⟨t249, A40, H⟩ := H
  replace H : (some t249) = some r := H
  have A4 := Aside0.mk A40
  clear A40
  obtain rfl := Option.some.inj H
  go_enter Tryd.func27, Tryd.ntmps27
  go_wp2_with (first | (go_at_call 47; (with_reducible refine (spec_poGood.calls k a0 _ _ l1 t249 _ ?side1 ?side2 A4.out).mono ?_); (case side1 => exact cd_ HR1.out); (case side2 => exact HC1.out); rintro e w5 ⟨rfl, hb⟩; replace HB := Aside0.mk (below_step blw_ hb); (try clear hb); (try clear hb2); (try clear hk); (try clear hi)))
  go_ret
  exact er_
 ·rw [if_neg c3] at H
  have c3b0 : decide (a0 ≤ 8) = false := decide_eq_false c3
  clear c3
  obtain rfl := Option.some.inj H
  go_enter Tryd.func27, Tryd.ntmps27
  go_wp2
  go_ret
  exact er_

/-! ### spec_FirstFlips: function 14 -/
mutual
def spec_FirstFlips.j0 : Nat → Int → List (S49) → List (S49) → Bool → Option ((List (S49)) × Bool)
 | 0, _, _, _, _ => none
 | k + 1, x0, x1, x2, x24 => if x24 = true then (some (([] : List (S49)), false)) else ((spec_poAll.f x0).bind fun t252 => ((spec_flFar.f k x0 t252 x2).bind fun t255 => ((spec_flFind.f k t252 x1).bind fun t258 => (if 0 ≤ t258 then (if t258 < (t255.length : Int) then (spec_FirstFlips.l0 k x0 x1 t252 t255 ([] : List (S49)) (rd t255 t258)) else (none)) else (none)))))
def spec_FirstFlips.l0 : Nat → Int → List (S49) → List (List (S49)) → List Int → List (S49) → Int → Option ((List (S49)) × Bool)
 | 0, _, _, _, _, _, _ => none
 | k + 1, x0, x1, x8, x9, x10, x11 => if x11 > 0 then (spec_FirstFlips.l1 k x0 x1 x8 x9 x10 x11 x1 (x1.length : Int) 0) else (some (x10, true))
def spec_FirstFlips.l1 : Nat → Int → List (S49) → List (List (S49)) → List Int → List (S49) → Int → List (S49) → Int → Int → Option ((List (S49)) × Bool)
 | 0, _, _, _, _, _, _, _, _, _ => none
 | k + 1, x0, x1, x8, x9, x10, x11, x41, x42, x43 => if x43 < x42 then (if 0 ≤ x43 then (if x43 < (x41.length : Int) then ((spec_flMake.f k x0 x1 ((rd_T49 x41 x43).f0) ((rd_T49 x41 x43).f1)).bind fun t262 => ((spec_flFind.f k x8 t262).bind fun t265 => (if 0 ≤ t265 then (if t265 < (x9.length : Int) then (if (rd x9 t265) = (wrap64 (x11 - 1)) then (if x10.length < 8796093022208 then (spec_FirstFlips.l0 k x0 t262 x8 x9 (x10 ++ [(⟨(rd_T49 x41 x43).f0, (rd_T49 x41 x43).f1⟩ : S49)]) (wrap64 (x11 - 1))) else (none)) else (spec_FirstFlips.l1 k x0 x1 x8 x9 x10 x11 x41 x42 (wrap64 (x43 + 1)))) else (none)) else (none)))) else (none)) else (none)) else (spec_FirstFlips.l0 k x0 x1 x8 x9 x10 (wrap64 (x11 - 1)))
end
def spec_FirstFlips.f (k : Nat) (a0 : Int) (l1 : List (S49)) (l2 : List (S49)) : Option ((List (S49)) × Bool) := (spec_flSmall.f k a0 l1).bind fun t250 => (if t250 = true then ((spec_flSmall.f k a0 l2).bind fun t251 => (spec_FirstFlips.j0 k a0 l1 l2 (!t251))) else (spec_FirstFlips.j0 k a0 l1 l2 true))
theorem spec_FirstFlips.mono_l : ∀ k, (∀ y0 y1 y2 y3, LeO (spec_FirstFlips.j0 k y0 y1 y2 y3) (spec_FirstFlips.j0 (k + 1) y0 y1 y2 y3)) ∧ (∀ y0 y1 y2 y3 y4 y5, LeO (spec_FirstFlips.l0 k y0 y1 y2 y3 y4 y5) (spec_FirstFlips.l0 (k + 1) y0 y1 y2 y3 y4 y5)) ∧ (∀ y0 y1 y2 y3 y4 y5 y6 y7 y8, LeO (spec_FirstFlips.l1 k y0 y1 y2 y3 y4 y5 y6 y7 y8) (spec_FirstFlips.l1 (k + 1) y0 y1 y2 y3 y4 y5 y6 y7 y8))
 | 0 => ⟨fun _ _ _ _ r h => by simp [spec_FirstFlips.j0] at h, fun _ _ _ _ _ _ r h => by simp [spec_FirstFlips.l0] at h, fun _ _ _ _ _ _ _ _ _ r h => by simp [spec_FirstFlips.l1] at h⟩
 | k + 1 => by
  obtain ⟨ih0, ih1, ih2⟩ := spec_FirstFlips.mono_l k
  refine ⟨?_, ?_, ?_⟩
  ·intro y0 y1 y2 y3
   unfold spec_FirstFlips.j0
   repeat' first
   | (with_reducible exact ih0 _ _ _ _)
   | (with_reducible exact ih1 _ _ _ _ _ _)
   | (with_reducible exact ih2 _ _ _ _ _ _ _ _ _)
   | (with_reducible exact spec_flFar.mono _ _ _ _)
   | (with_reducible exact spec_flFind.mono _ _ _)
   | (with_reducible exact spec_flMake.mono _ _ _ _ _)
   | (with_reducible exact spec_flSmall.mono _ _ _)
   | (with_reducible exact LeO.refl _)
   | (with_reducible exact LeO.none _)
   | (with_reducible refine LeO.ite ?_ ?_)
   | (with_reducible refine LeO.bind ?_ (fun _ => ?_))
   | exact ih0 _ _ _ _
   | exact ih1 _ _ _ _ _ _
   | exact ih2 _ _ _ _ _ _ _ _ _
   | exact spec_flFar.mono _ _ _ _
   | exact spec_flFind.mono _ _ _
   | exact spec_flMake.mono _ _ _ _ _
   | exact spec_flSmall.mono _ _ _
   | exact LeO.none _
   | refine LeO.ite ?_ ?_
   | refine LeO.bind ?_ (fun _ => ?_)
  ·intro y0 y1 y2 y3 y4 y5
   unfold spec_FirstFlips.l0
   repeat' first
   | (with_reducible exact ih0 _ _ _ _)
   | (with_reducible exact ih1 _ _ _ _ _ _)
   | (with_reducible exact ih2 _ _ _ _ _ _ _ _ _)
   | (with_reducible exact spec_flFar.mono _ _ _ _)
   | (with_reducible exact spec_flFind.mono _ _ _)
   | (with_reducible exact spec_flMake.mono _ _ _ _ _)
   | (with_reducible exact spec_flSmall.mono _ _ _)
   | (with_reducible exact LeO.refl _)
   | (with_reducible exact LeO.none _)
   | (with_reducible refine LeO.ite ?_ ?_)
   | (with_reducible refine LeO.bind ?_ (fun _ => ?_))
   | exact ih0 _ _ _ _
   | exact ih1 _ _ _ _ _ _
   | exact ih2 _ _ _ _ _ _ _ _ _
   | exact spec_flFar.mono _ _ _ _
   | exact spec_flFind.mono _ _ _
   | exact spec_flMake.mono _ _ _ _ _
   | exact spec_flSmall.mono _ _ _
   | exact LeO.none _
   | refine LeO.ite ?_ ?_
   | refine LeO.bind ?_ (fun _ => ?_)
  ·intro y0 y1 y2 y3 y4 y5 y6 y7 y8
   unfold spec_FirstFlips.l1
   repeat' first
   | (with_reducible exact ih0 _ _ _ _)
   | (with_reducible exact ih1 _ _ _ _ _ _)
   | (with_reducible exact ih2 _ _ _ _ _ _ _ _ _)
   | (with_reducible exact spec_flFar.mono _ _ _ _)
   | (with_reducible exact spec_flFind.mono _ _ _)
   | (with_reducible exact spec_flMake.mono _ _ _ _ _)
   | (with_reducible exact spec_flSmall.mono _ _ _)
   | (with_reducible exact LeO.refl _)
   | (with_reducible exact LeO.none _)
   | (with_reducible refine LeO.ite ?_ ?_)
   | (with_reducible refine LeO.bind ?_ (fun _ => ?_))
   | exact ih0 _ _ _ _
   | exact ih1 _ _ _ _ _ _
   | exact ih2 _ _ _ _ _ _ _ _ _
   | exact spec_flFar.mono _ _ _ _
   | exact spec_flFind.mono _ _ _
   | exact spec_flMake.mono _ _ _ _ _
   | exact spec_flSmall.mono _ _ _
   | exact LeO.none _
   | refine LeO.ite ?_ ?_
   | refine LeO.bind ?_ (fun _ => ?_)
theorem spec_FirstFlips.mono : ∀ a0 a1 a2 k, LeO (spec_FirstFlips.f k a0 a1 a2) (spec_FirstFlips.f (k + 1) a0 a1 a2) := by
 intro a0 a1 a2 k
 obtain ⟨ih0, ih1, ih2⟩ := spec_FirstFlips.mono_l k
 unfold spec_FirstFlips.f
 repeat' first
   | (with_reducible exact ih0 _ _ _ _)
   | (with_reducible exact ih1 _ _ _ _ _ _)
   | (with_reducible exact ih2 _ _ _ _ _ _ _ _ _)
   | (with_reducible exact spec_flFar.mono _ _ _ _)
   | (with_reducible exact spec_flFind.mono _ _ _)
   | (with_reducible exact spec_flMake.mono _ _ _ _ _)
   | (with_reducible exact spec_flSmall.mono _ _ _)
   | (with_reducible exact LeO.refl _)
   | (with_reducible exact LeO.none _)
   | (with_reducible refine LeO.ite ?_ ?_)
   | (with_reducible refine LeO.bind ?_ (fun _ => ?_))
   | exact ih0 _ _ _ _
   | exact ih1 _ _ _ _ _ _
   | exact ih2 _ _ _ _ _ _ _ _ _
   | exact spec_flFar.mono _ _ _ _
   | exact spec_flFind.mono _ _ _
   | exact spec_flMake.mono _ _ _ _ _
   | exact spec_flSmall.mono _ _ _
   | exact LeO.none _
   | refine LeO.ite ?_ ?_
   | refine LeO.bind ?_ (fun _ => ?_)
set_option maxHeartbeats 8000000 in
set_option maxRecDepth 100000 in
theorem spec_FirstFlips.calls (k : Nat) (a0 : Int) (P1_ : Nat → Prop) (A1 : Option Addr) (c1 : Nat) (l1 : List (S49)) (A2 : Option Addr) (c2 : Nat) (l2 : List (S49)) (r1 : List (S49)) (r2 : Bool) (w : World) (hs1 : Kd.V k49 49 w w.heap.size (fun k_ => P1_ k_) (.slice A1 l1.length c1) l1) (hr2 : Kd.C k49 w A2 l2.length l2) (hc2 : l2.length ≤ c2) (h : spec_FirstFlips.f k a0 l1 l2 = some (r1, r2)) :
  Calls Tryd.prog 14 #[.int .i64 a0, .slice A1 l1.length c1, .slice A2 l2.length c2] w fun e w' => ∃ v0_ : Value, e = .returned (.tuple #[v0_, .bool r2]) ∧ Kd.R k49 49 w' w.heap.size (fun k_ => (w.heap.size ≤ k_)) v0_ r1 ∧ Below w.heap.size w w' := by
 have hu49 := Tryd.underlying49
 have HO1 := Aside0.mk (show Kd.V k49 49 w w.heap.size (fun k_ => (P1_ k_ ∨ w.heap.size ≤ k_)) (.slice A1 l1.length c1) l1 from Kd.V_mono hs1 (fun k_ hk => .inl hk))
 have HR2 := Aside0.mk hr2
 have HC2 := Aside0.mk hc2
 clear hr2 hc2
 have HB := Aside0.mk (Below.refl w.heap.size w)
 have H : ((spec_flSmall.f k a0 l1).bind fun t250 => (if t250 = true then ((spec_flSmall.f k a0 l2).bind fun t251 => (spec_FirstFlips.j0 k a0 l1 l2 (!t251))) else (spec_FirstFlips.j0 k a0 l1 l2 true))) = some (r1, r2) := h
 clear h
 have HC4 := Aside0.mk H
 clear H
 go_enter Tryd.func14, Tryd.ntmps14
 go_upto_region 1 with (fail)
 go_cut [24] (fun v24 wc => ∃ (kq : Nat) (x24_3 : Bool), v24 = .bool x24_3 ∧ Aside0 (spec_FirstFlips.j0 kq a0 l1 l2 x24_3 = some (r1, r2)) ∧ Aside0 (kq ≤ k) ∧ Aside0 (Kd.V k49 49 wc w.heap.size (fun k_ => (P1_ k_ ∨ w.heap.size ≤ k_)) (.slice A1 l1.length c1) l1) ∧ Aside0 (Below w.heap.size w wc))
 case first =>
  have H := HC4.out
  clear HC4
  replace H := Option.bind_eq_some_iff.mp H
  obtain ⟨t250, A50, H⟩ := H
  replace H : (if t250 = true then ((spec_flSmall.f k a0 l2).bind fun t251 => (spec_FirstFlips.j0 k a0 l1 l2 (!t251))) else (spec_FirstFlips.j0 k a0 l1 l2 true)) = some (r1, r2) := H
  have A5 := Aside0.mk A50
  clear A50
  by_cases c6 : t250 = true
  ·subst c6
   replace H : ((spec_flSmall.f k a0 l2).bind fun t251 => (spec_FirstFlips.j0 k a0 l1 l2 (!t251))) = some (r1, r2) := by rw [if_pos rfl] at H; exact H
   replace H := Option.bind_eq_some_iff.mp H
   obtain ⟨t251, A70, H⟩ := H
   replace H : (spec_FirstFlips.j0 k a0 l1 l2 (!t251)) = some (r1, r2) := H
   have A7 := Aside0.mk A70
   clear A70
   have H' := Aside0.mk H
   clear H
   go_wp2_with (first | ((with_reducible refine gate_callee (f := 27) rfl ?_); refine goesL_ (some 17) rfl rfl Tryd.func27 (by kernel_rfl) rfl #[.int .i64 a0, .slice A1 l1.length c1] rfl amp_ ?_; (with_reducible refine (spec_flSmall.calls k a0 _ _ l1 true _ ?side1 ?side2 A5.out).mono ?_); (case side1 => exact cd_ (Kd.V_reads' HO1.out).2.2); (case side2 => exact (Kd.V_reads' HO1.out).2.1); rintro e w8 ⟨rfl, hb⟩; refine ⟨_, rfl, ?_⟩; replace HO1 := Aside0.mk (Kd.V_below (va_ HO1.out) hb); replace HB := Aside0.mk (below_step blw_ hb); (try clear hb); (try clear hb2); (try clear hk); (try clear hi)) | (go_at_call 27; (with_reducible refine (spec_flSmall.calls k a0 _ _ l2 t251 _ ?side1 ?side2 A7.out).mono ?_); (case side1 => exact cd_ (Kd.C_below HR2.out HB.out)); (case side2 => exact HC2.out); rintro e w9 ⟨rfl, hb⟩; replace HO1 := Aside0.mk (Kd.V_below (va_ HO1.out) hb); replace HB := Aside0.mk (below_step blw_ hb); (try clear hb); (try clear hb2); (try clear hk); (try clear hi)))
   go_meet
   case rel => exact ⟨_, (!t251), rsd_, H', ⟨by first | omega | exact Nat.le_refl _⟩, ⟨va_ HO1.out⟩, ⟨blw_⟩⟩
  ·replace c6 := Bool.eq_false_iff.mpr c6
   subst c6
   replace H : (spec_FirstFlips.j0 k a0 l1 l2 true) = some (r1, r2) := by rw [if_neg (show ¬ (false = true) by decide)] at H; exact H
   have H' := Aside0.mk H
   clear H
   go_wp2_with (first | ((with_reducible refine gate_callee (f := 27) rfl ?_); refine goesL_ (some 17) rfl rfl Tryd.func27 (by kernel_rfl) rfl #[.int .i64 a0, .slice A1 l1.length c1] rfl amp_ ?_; (with_reducible refine (spec_flSmall.calls k a0 _ _ l1 false _ ?side1 ?side2 A5.out).mono ?_); (case side1 => exact cd_ (Kd.V_reads' HO1.out).2.2); (case side2 => exact (Kd.V_reads' HO1.out).2.1); rintro e w10 ⟨rfl, hb⟩; refine ⟨_, rfl, ?_⟩; replace HO1 := Aside0.mk (Kd.V_below (va_ HO1.out) hb); replace HB := Aside0.mk (below_step blw_ hb); (try clear hb); (try clear hb2); (try clear hk); (try clear hi)))
   go_meet
   case rel => exact ⟨_, (true), rsd_, H', ⟨by first | omega | exact Nat.le_refl _⟩, ⟨va_ HO1.out⟩, ⟨blw_⟩⟩
 case rest =>
  clear HC4
  try clear c1
  try clear c2
  try clear p2
  try clear c6
  obtain ⟨kq, x24_3, rfl, HA, HJ3, HO_1, HB⟩ := hcut
  cases kq with
  | zero => exact absurd HA.out (by simp [spec_FirstFlips.j0])
  | succ kj3 =>
   have H := HA.out
   clear HA
   simp only [spec_FirstFlips.j0] at H
   by_cases c11 : x24_3 = true
   ·subst c11
    replace H : (some (([] : List (S49)), false)) = some (r1, r2) := by rw [if_pos rfl] at H; exact H
    simp only [Option.some.injEq, Prod.mk.injEq] at H
    obtain ⟨rfl, rfl⟩ := H
    go_wp2
    go_ret2
    exact ⟨_, by first | rfl | (simp [errW_none, errW_some] <;> rfl) | (simp [*, errW_none, errW_some] <;> rfl), by first | exact Kd.R_nil _ _ _ _ _ | exact Kd.N_nil _ _ _ _ _ | exact Kd.V_nil _ _ _ _ _ | exact Kd.Q_nil _ _ _ _ _ | exact Kd.S_nil _ _ _ _ _, blw_⟩
   ·replace c11 := Bool.eq_false_iff.mpr c11
    subst c11
    replace H : ((spec_poAll.f a0).bind fun t252 => ((spec_flFar.f kj3 a0 t252 l2).bind fun t255 => ((spec_flFind.f kj3 t252 l1).bind fun t258 => (if 0 ≤ t258 then (if t258 < (t255.length : Int) then (spec_FirstFlips.l0 kj3 a0 l1 t252 t255 ([] : List (S49)) (rd t255 t258)) else (none)) else (none))))) = some (r1, r2) := by rw [if_neg (show ¬ (false = true) by decide)] at H; exact H
    replace H := Option.bind_eq_some_iff.mp H
    obtain ⟨t252, A120, H⟩ := H
    replace H : ((spec_flFar.f kj3 a0 t252 l2).bind fun t255 => ((spec_flFind.f kj3 t252 l1).bind fun t258 => (if 0 ≤ t258 then (if t258 < (t255.length : Int) then (spec_FirstFlips.l0 kj3 a0 l1 t252 t255 ([] : List (S49)) (rd t255 t258)) else (none)) else (none)))) = some (r1, r2) := H
    have A12 := Aside0.mk A120
    clear A120
    replace H := Option.bind_eq_some_iff.mp H
    obtain ⟨t255, A130, H⟩ := H
    replace H : ((spec_flFind.f kj3 t252 l1).bind fun t258 => (if 0 ≤ t258 then (if t258 < (t255.length : Int) then (spec_FirstFlips.l0 kj3 a0 l1 t252 t255 ([] : List (S49)) (rd t255 t258)) else (none)) else (none))) = some (r1, r2) := H
    have A13 := Aside0.mk A130
    clear A130
    replace H := Option.bind_eq_some_iff.mp H
    obtain ⟨t258, A140, H⟩ := H
    replace H : (if 0 ≤ t258 then (if t258 < (t255.length : Int) then (spec_FirstFlips.l0 kj3 a0 l1 t252 t255 ([] : List (S49)) (rd t255 t258)) else (none)) else (none)) = some (r1, r2) := H
    have A14 := Aside0.mk A140
    clear A140
    by_cases c15 : 0 ≤ t258
    case neg=>rw [if_neg c15] at H;exact absurd H (by simp)
    rw [if_pos c15] at H
    have c15b0 : decide (0 ≤ t258) = true := decide_eq_true c15
    clear c15
    by_cases c16 : t258 < (t255.length : Int)
    case neg=>rw [if_neg c16] at H;exact absurd H (by simp)
    rw [if_pos c16] at H
    have c16b0 : decide (t258 < (t255.length : Int)) = true := decide_eq_true c16
    clear c16
    have H' := Aside0.mk H
    clear H
    go_wp2_with (first | ((with_reducible refine gate_callee (f := 21) rfl ?_); refine goesL_ (some 26) rfl rfl Tryd.func21 (by kernel_rfl) rfl #[.int .i64 a0] rfl amp_ ?_; (with_reducible refine (spec_poAll.calls a0 t252 _ A12.out).mono ?_); rintro e w17 ⟨v253, rfl, ho0, hb⟩; refine ⟨_, rfl, ?_⟩; have HO254 := Aside0.mk (Kd.S_lower (Kd.S_newM (M := fun k_ => (w.heap.size ≤ k_)) ho0 (below_size blw_) (fun k_ h_ => h_)) (below_size blw_)); replace HO_1 := Aside0.mk (Kd.V_elder' (va_ HO_1.out) (Kd.S_base ho0) hb); replace HB := Aside0.mk (below_step blw_ hb); (try clear hb); (try clear hb2); (try clear hk); (try clear hi); (try clear ho0); obtain ⟨Ao18, co18, eo18⟩ := Kd.S_slice HO254.out; subst eo18) | ((with_reducible refine gate_callee (f := 22) rfl ?_); refine goesL_ (some 30) rfl rfl Tryd.func22 (by kernel_rfl) rfl #[.int .i64 a0, .slice Ao18 t252.length co18, .slice A2 l2.length c2] rfl amp_ ?_; (with_reducible refine (spec_flFar.calls kj3 a0 _ _ t252 _ _ l2 t255 _ ?side1 ?side2 ?side3 ?side4 A13.out).mono ?_); (case side1 => exact cd_ (Kd.S_reads' HO254.out).2.2); (case side2 => exact (Kd.S_reads' HO254.out).2.1); (case side3 => exact cd_ (Kd.C_below HR2.out HB.out)); (case side4 => exact HC2.out); rintro e w19 ⟨v256, rfl, ho0, hb⟩; refine ⟨_, rfl, ?_⟩; have HO257 := Aside0.mk (Kd.R_lower (Kd.R_newM (M := fun k_ => (w.heap.size ≤ k_)) ho0 (below_size blw_) (fun k_ h_ => h_)) (below_size blw_)); replace HO_1 := Aside0.mk (Kd.V_elder' (va_ HO_1.out) (Kd.R_base ho0) hb); replace HO254 := Aside0.mk (Kd.S_below (sa_ HO254.out) hb); replace HB := Aside0.mk (below_step blw_ hb); (try clear hb); (try clear hb2); (try clear hk); (try clear hi); (try clear ho0)) | ((with_reducible refine gate_callee (f := 28) rfl ?_); refine goesL_ (some 34) rfl rfl Tryd.func28 (by kernel_rfl) rfl #[.slice Ao18 t252.length co18, .slice A1 l1.length c1] rfl amp_ ?_; (with_reducible refine (spec_flFind.calls kj3 _ _ t252 _ _ l1 t258 _ ?side1 ?side2 ?side3 ?side4 A14.out).mono ?_); (case side1 => exact cd_ (Kd.S_reads' HO254.out).2.2); (case side2 => exact (Kd.S_reads' HO254.out).2.1); (case side3 => exact cd_ (Kd.V_reads' HO_1.out).2.2); (case side4 => exact (Kd.V_reads' HO_1.out).2.1); rintro e w' ⟨rfl, ⟨nd, rfl⟩⟩; refine ⟨_, rfl, ?_⟩; obtain ⟨Ao20, co20, eo20⟩ := Kd.R_slice HO257.out; subst eo20; have p259 : 0 ≤ (t258 : Int) := odt_; have q259 : t258 < (t255.length : Int) := odt_; obtain ⟨ad259, e259, hx259_0⟩ := Kd.at_int (Kd.R_reads' HO257.out).2.2 t258 p259 q259; cases e259; replace p259 := eq_true p259; replace q259 := eq_true q259))
    go_loopg [1, 10, 11] kj3 (fun kq v1 v10 v11 w' => ∃ (x1_2 : List (S49)) (x10_2 : List (S49)) (x11_2 : Int), v11 = .int .i64 x11_2 ∧ Aside0 (spec_FirstFlips.l0 kq a0 x1_2 t252 t255 x10_2 x11_2 = some (r1, r2)) ∧ Aside0 (kq ≤ kj3) ∧ Aside0 (Kd.V k49 49 w' w.heap.size (fun k_ => (P1_ k_ ∨ w.heap.size ≤ k_) ∧ some k_ ≠ ((.slice Ao18 t252.length co18) : Value).ownBlock ∧ some k_ ≠ ((.slice (some ad259) t255.length co20) : Value).ownBlock ∧ some k_ ≠ (v10 : Value).ownBlock) v1 x1_2) ∧ Aside0 (Kd.S (Kd.slice 49 k49) 28 w' w.heap.size (fun k_ => (w.heap.size ≤ k_) ∧ some k_ ≠ (v10 : Value).ownBlock) (.slice Ao18 t252.length co18) t252) ∧ Aside0 (Kd.R (Kd.int .i64) 3 w' w.heap.size (fun k_ => (w.heap.size ≤ k_)) (.slice (some ad259) t255.length co20) t255) ∧ Aside0 (Kd.R k49 49 w' w.heap.size (fun k_ => (w.heap.size ≤ k_)) v10 x10_2) ∧ Aside0 (Below w.heap.size w w'))
    case atStart => exact ⟨(l1), (([] : List (S49))), (rd t255 t258), rsd_, H', ⟨Nat.le_refl _⟩, ⟨by (with_reducible repeat (first | apply Kd.V_alloc | apply Kd.V_drewN | apply Kd.V_drew)); exact Kd.V_mono HO_1.out (fun _ hk => ⟨hk.1.1, ⟨hk.1.2, ⟨hk.2, (by simp [Value.ownBlock])⟩⟩⟩)⟩, ⟨by (with_reducible repeat (first | apply Kd.S_alloc | apply Kd.S_drewN | apply Kd.S_drew)); exact Kd.S_mono HO254.out (fun _ hk => ⟨hk.1, (by simp [Value.ownBlock])⟩)⟩, ⟨by (with_reducible repeat (first | apply Kd.R_alloc | apply Kd.R_drewN | apply Kd.R_drew)); exact Kd.R_mono HO257.out (fun _ hk => hk.1)⟩, ⟨by first | exact Kd.R_nil _ _ _ _ _ | exact Kd.N_nil _ _ _ _ _ | exact Kd.V_nil _ _ _ _ _ | exact Kd.Q_nil _ _ _ _ _ | exact Kd.S_nil _ _ _ _ _⟩, ⟨blw_⟩⟩
    case round =>
     clear H'
     try clear c1
     try clear c2
     try clear p2
     try clear q2
     try clear hx2
     try clear c6
     try clear c11
     try clear c14
     try clear c15
     try clear c15b0
     try clear c16
     try clear c16b0
     try clear hx259_0
     try clear p2
     try clear p259
     try clear q259
     try clear HO_1
     try clear HO_8
     try clear HO_9
     try clear HO_10
     obtain ⟨x1_2, x10_2, x11_2, rfl, HA, HK2, HO_1, HO_8, HO_9, HO_10, HB⟩ := hrel
     cases gk with
     | zero => exact absurd HA.out (by simp [spec_FirstFlips.l0])
     | succ k2 =>
      have H := HA.out
      clear HA
      simp only [spec_FirstFlips.l0] at H
      by_cases c21 : x11_2 > 0
      ·rw [if_pos c21] at H
       have c21b0 : decide (0 < x11_2) = true := decide_eq_true c21
       clear c21
       have H' := Aside0.mk H
       clear H
       obtain ⟨Ao22, co22, eo22⟩ := Kd.V_slice HO_1.out
       subst eo22
       go_wp2
       go_loopg [1, 10, 43] k2 (fun kq v1 v10 v43 w' => ∃ (x1_3 : List (S49)) (x10_3 : List (S49)) (x43_3 : Int), v43 = .int .i64 x43_3 ∧ Aside0 (spec_FirstFlips.l1 kq a0 x1_3 t252 t255 x10_3 x11_2 x1_2 (x1_2.length : Int) x43_3 = some (r1, r2)) ∧ Aside0 (kq ≤ k2) ∧ Aside0 (Kd.V k49 49 w' w.heap.size (fun k_ => (P1_ k_ ∨ w.heap.size ≤ k_) ∧ some k_ ≠ ((.slice Ao18 t252.length co18) : Value).ownBlock ∧ some k_ ≠ ((.slice (some ad259) t255.length co20) : Value).ownBlock ∧ some k_ ≠ (v10 : Value).ownBlock) v1 x1_3) ∧ Aside0 (Kd.S (Kd.slice 49 k49) 28 w' w.heap.size (fun k_ => (w.heap.size ≤ k_) ∧ some k_ ≠ (v10 : Value).ownBlock) (.slice Ao18 t252.length co18) t252) ∧ Aside0 (Kd.R (Kd.int .i64) 3 w' w.heap.size (fun k_ => (w.heap.size ≤ k_)) (.slice (some ad259) t255.length co20) t255) ∧ Aside0 (Kd.R k49 49 w' w.heap.size (fun k_ => (w.heap.size ≤ k_)) v10 x10_3) ∧ Aside0 (Kd.V k49 49 w' w.heap.size (fun k_ => (P1_ k_ ∨ w.heap.size ≤ k_) ∧ some k_ ≠ ((.slice Ao18 t252.length co18) : Value).ownBlock ∧ some k_ ≠ ((.slice (some ad259) t255.length co20) : Value).ownBlock ∧ some k_ ≠ (v10 : Value).ownBlock) (.slice Ao22 x1_2.length co22) x1_2) ∧ Aside0 (Below w.heap.size w w'))
       case atStart => exact ⟨(x1_2), (x10_2), (0), rsd_, H', ⟨Nat.le_refl _⟩, ⟨va_ HO_1.out⟩, ⟨sa_ HO_8.out⟩, ⟨ra_ HO_9.out⟩, ⟨ra_ HO_10.out⟩, ⟨va_ HO_1.out⟩, ⟨blw_⟩⟩
       case round =>
        clear H'
        try clear c1
        try clear c2
        try clear p2
        try clear q2
        try clear hx2
        try clear c6
        try clear c11
        try clear c14
        try clear c15
        try clear c15b0
        try clear c16
        try clear c16b0
        try clear c21
        try clear c21b0
        try clear c22
        try clear hx259_0
        try clear p2
        try clear p259
        try clear q2
        try clear q259
        try clear HO_1
        try clear HO_8
        try clear HO_9
        try clear HO_10
        try clear HO_41
        obtain ⟨x1_3, x10_3, x43_3, rfl, HA, HK3, HO_1, HO_8, HO_9, HO_10, HO_41, HB⟩ := hrel
        cases gk with
        | zero => exact absurd HA.out (by simp [spec_FirstFlips.l1])
        | succ k3 =>
         have H := HA.out
         clear HA
         simp only [spec_FirstFlips.l1] at H
         by_cases c23 : x43_3 < (x1_2.length : Int)
         ·rw [if_pos c23] at H
          have c23b0 : decide (x43_3 < (x1_2.length : Int)) = true := decide_eq_true c23
          clear c23
          by_cases c24 : 0 ≤ x43_3
          case neg=>rw [if_neg c24] at H;exact absurd H (by simp)
          rw [if_pos c24] at H
          have c24b0 : decide (0 ≤ x43_3) = true := decide_eq_true c24
          clear c24
          by_cases c25 : x43_3 < (x1_2.length : Int)
          case neg=>rw [if_neg c25] at H;exact absurd H (by simp)
          rw [if_pos c25] at H
          have c25b0 : decide (x43_3 < (x1_2.length : Int)) = true := decide_eq_true c25
          clear c25
          replace H := Option.bind_eq_some_iff.mp H
          obtain ⟨t262, A260, H⟩ := H
          replace H : ((spec_flFind.f k3 t252 t262).bind fun t265 => (if 0 ≤ t265 then (if t265 < (t255.length : Int) then (if (rd t255 t265) = (wrap64 (x11_2 - 1)) then (if x10_3.length < 8796093022208 then (spec_FirstFlips.l0 k3 a0 t262 t252 t255 (x10_3 ++ [(⟨(rd_T49 x1_2 x43_3).f0, (rd_T49 x1_2 x43_3).f1⟩ : S49)]) (wrap64 (x11_2 - 1))) else (none)) else (spec_FirstFlips.l1 k3 a0 x1_3 t252 t255 x10_3 x11_2 x1_2 (x1_2.length : Int) (wrap64 (x43_3 + 1)))) else (none)) else (none))) = some (r1, r2) := H
          have A26 := Aside0.mk A260
          clear A260
          replace H := Option.bind_eq_some_iff.mp H
          obtain ⟨t265, A270, H⟩ := H
          replace H : (if 0 ≤ t265 then (if t265 < (t255.length : Int) then (if (rd t255 t265) = (wrap64 (x11_2 - 1)) then (if x10_3.length < 8796093022208 then (spec_FirstFlips.l0 k3 a0 t262 t252 t255 (x10_3 ++ [(⟨(rd_T49 x1_2 x43_3).f0, (rd_T49 x1_2 x43_3).f1⟩ : S49)]) (wrap64 (x11_2 - 1))) else (none)) else (spec_FirstFlips.l1 k3 a0 x1_3 t252 t255 x10_3 x11_2 x1_2 (x1_2.length : Int) (wrap64 (x43_3 + 1)))) else (none)) else (none)) = some (r1, r2) := H
          have A27 := Aside0.mk A270
          clear A270
          by_cases c28 : 0 ≤ t265
          case neg=>rw [if_neg c28] at H;exact absurd H (by simp)
          rw [if_pos c28] at H
          have c28b0 : decide (0 ≤ t265) = true := decide_eq_true c28
          clear c28
          by_cases c29 : t265 < (t255.length : Int)
          case neg=>rw [if_neg c29] at H;exact absurd H (by simp)
          rw [if_pos c29] at H
          have c29b0 : decide (t265 < (t255.length : Int)) = true := decide_eq_true c29
          clear c29
          by_cases c30 : (rd t255 t265) = (wrap64 (x11_2 - 1))
          ·rw [if_pos c30] at H
           have c30b0 : ((rd t255 t265) == (wrap64 (x11_2 - 1))) = true := beq_iff_eq.mpr c30
           have c30b1 : ((rd t255 t265) != (wrap64 (x11_2 - 1))) = false := bne_eq_false_iff_eq.mpr c30
           clear c30
           by_cases c31 : x10_3.length < 8796093022208
           case neg=>rw [if_neg c31] at H;exact absurd H (by simp)
           rw [if_pos c31] at H
           have LMc31 := Aside0.mk c31
           clear c31
           obtain ⟨y267, hy267⟩ : ∃ y_ : List (S49), y_ = (x10_3 ++ [(⟨(rd_T49 x1_2 x43_3).f0, (rd_T49 x1_2 x43_3).f1⟩ : S49)]) := ⟨_, rfl⟩
           replace H : (spec_FirstFlips.l0 k3 a0 t262 t252 t255 y267 (wrap64 (x11_2 - 1))) = some (r1, r2) := hyy_ hy267 H
           have Ny267 := Aside0.mk hy267
           clear hy267
           have H' := Aside0.mk H
           clear H
           have p260 : 0 ≤ (x43_3 : Int) := odt_
           have q260 : x43_3 < (x1_2.length : Int) := odt_
           obtain ⟨ad260, e260, hx260_0, hx260_1⟩ := at_T49 (Kd.V_reads' HO_41.out).2.2 x43_3 p260 q260
           cases e260
           replace p260 := eq_true p260
           replace q260 := eq_true q260
           go_wp2_with (first | ((with_reducible refine gate_dst (N := 13) rfl ?_); refine bxe_ 13 #[.int .i64 0, .int .i64 0] 49 ?_; intro gb261 hg w32 hbox hb; have BK261 := Aside0.mk (hbox); have GW261 := gz_ w hg; have GE261 := gz_ w hg; replace HO_1 := Aside0.mk (Kd.V_below (Kd.V_elderB (va_ HO_1.out) gb261 (Nat.le_of_eq hg.symm)) hb); replace HO_8 := Aside0.mk (Kd.S_below (Kd.S_elderB (sa_ HO_8.out) gb261 (Nat.le_of_eq hg.symm)) hb); replace HO_9 := Aside0.mk (Kd.R_below (ra_ HO_9.out) hb); replace HO_10 := Aside0.mk (Kd.R_below (Kd.R_elderB (ra_ HO_10.out) gb261 (Nat.le_of_eq hg.symm)) hb); replace HO_41 := Aside0.mk (Kd.V_below (Kd.V_elderB (va_ HO_41.out) gb261 (Nat.le_of_eq hg.symm)) hb); replace HB := Aside0.mk (below_step blw_ hb); clear hb hbox hg; have hcz33_0 := blc_ (.int .i64 0) BK261 0; have hcz33_1 := blc_ (.int .i64 0) BK261 1; have hfz33_0 := blk_frozen BK261.out 0; have hfz33_1 := blk_frozen BK261.out 1; obtain ⟨Ao34, co34, eo34⟩ := Kd.V_slice HO_1.out; subst eo34) | ((with_reducible refine gate_callee (f := 34) rfl ?_); refine goesL_ (some 50) rfl rfl Tryd.func34 (by kernel_rfl) rfl #[.int .i64 a0, .slice Ao34 x1_3.length co34, .agg #[.int .i64 ((rd_T49 x1_2 x43_3).f0), .int .i64 ((rd_T49 x1_2 x43_3).f1)]] rfl amp_ ?_; (with_reducible refine (spec_flMake.calls k3 a0 _ _ x1_3 ((rd_T49 x1_2 x43_3).f0) ((rd_T49 x1_2 x43_3).f1) t262 _ ?side1 ?side2 A26.out).mono ?_); (case side1 => refine (Kd.V_reads' (e := 49) (base := w.heap.size) (ok := fun k_ => (((P1_ k_ ∨ w.heap.size ≤ k_) ∧ (some k_ ≠ (.slice Ao18 t252.length co18 : Value).ownBlock ∧ (some k_ ≠ (.slice (some ad259) t255.length co20 : Value).ownBlock ∧ some k_ ≠ (u10 : Value).ownBlock))) ∧ k_ ≠ gb261)) (n := x1_3.length) (c := co34) ?_).2.2; exact (by (with_reducible repeat (first | apply Kd.V_alloc | apply Kd.V_drewN | apply Kd.V_drew)); exact (Kd.V_mono (Kd.V_far (p := ⟨gb261, 1, none⟩) (Kd.V_far (p := ⟨gb261, 0, none⟩) (Kd.V_mono HO_1.out (fun k_ hk => (⟨hk, hk.2⟩ : _ ∧ k_ ≠ gb261))) (fun _ hk => hk.2) (.int .i64 ((rd_T49 x1_2 x43_3).f0))) (fun _ hk => hk.2) (.int .i64 ((rd_T49 x1_2 x43_3).f1))) (fun _ h_ => h_.1)))); (case side2 => exact (Kd.V_reads' HO_1.out).2.1); rintro e w35 ⟨v263, rfl, ho0, hb⟩; refine ⟨_, rfl, ?_⟩; have HO264 := Aside0.mk (Kd.R_lower (Kd.R_newB (Kd.R_new' (Kd.R_newM (M := fun k_ => (w.heap.size ≤ k_)) ho0 (below_size bls_) (fun k_ h_ => h_)) (Kd.R_lt (by (with_reducible repeat (first | apply Kd.R_alloc | apply Kd.R_drewN | apply Kd.R_drew)); exact (Kd.R_mono (Kd.R_far (p := ⟨gb261, 1, none⟩) (Kd.R_far (p := ⟨gb261, 0, none⟩) (Kd.R_mono HO_10.out (fun k_ hk => (⟨hk, hk.2⟩ : _ ∧ k_ ≠ gb261))) (fun _ hk => hk.2) (.int .i64 ((rd_T49 x1_2 x43_3).f0))) (fun _ hk => hk.2) (.int .i64 ((rd_T49 x1_2 x43_3).f1))) (fun _ h_ => h_.1))))) (g := gb261) (o := .cells #[.int .i64 ((rd_T49 x1_2 x43_3).f0), .int .i64 ((rd_T49 x1_2 x43_3).f1)] 49 (0, 0)) (by (with_reducible repeat (first | refine blk_drewN ?_ _ | refine blk_drew ?_ | refine blk_alloc ?_ _)); refine blk_put (cs := #[.int .i64 ((rd_T49 x1_2 x43_3).f0), .int .i64 0]) ?_ 1 _ rfl; (with_reducible repeat (first | refine blk_drewN ?_ _ | refine blk_drew ?_ | refine blk_alloc ?_ _)); refine blk_put (cs := #[.int .i64 0, .int .i64 0]) ?_ 0 _ rfl; (with_reducible repeat (first | refine blk_drewN ?_ _ | refine blk_drew ?_ | refine blk_alloc ?_ _)); exact BK261.out)) (below_size bls_)); replace HO_1 := Aside0.mk (Kd.V_elder' (by (with_reducible repeat (first | apply Kd.V_alloc | apply Kd.V_drewN | apply Kd.V_drew)); exact (Kd.V_mono (Kd.V_far (p := ⟨gb261, 1, none⟩) (Kd.V_far (p := ⟨gb261, 0, none⟩) (Kd.V_mono HO_1.out (fun k_ hk => (⟨hk, hk.2⟩ : _ ∧ k_ ≠ gb261))) (fun _ hk => hk.2) (.int .i64 ((rd_T49 x1_2 x43_3).f0))) (fun _ hk => hk.2) (.int .i64 ((rd_T49 x1_2 x43_3).f1))) (fun _ h_ => h_.1))) (Kd.R_base ho0) hb); replace HO_8 := Aside0.mk (Kd.S_elder' (by (with_reducible repeat (first | apply Kd.S_alloc | apply Kd.S_drewN | apply Kd.S_drew)); exact (Kd.S_mono (Kd.S_far (p := ⟨gb261, 1, none⟩) (Kd.S_far (p := ⟨gb261, 0, none⟩) (Kd.S_mono HO_8.out (fun k_ hk => (⟨hk, hk.2⟩ : _ ∧ k_ ≠ gb261))) (fun _ hk => hk.2) (.int .i64 ((rd_T49 x1_2 x43_3).f0))) (fun _ hk => hk.2) (.int .i64 ((rd_T49 x1_2 x43_3).f1))) (fun _ h_ => h_.1))) (Kd.R_base ho0) hb); replace HO_9 := Aside0.mk (Kd.R_below (by (with_reducible repeat (first | apply Kd.R_alloc | apply Kd.R_drewN | apply Kd.R_drew)); exact (Kd.R_mono (Kd.R_far (p := ⟨gb261, 1, none⟩) (Kd.R_far (p := ⟨gb261, 0, none⟩) (Kd.R_types HO_9.out BK261.out (by decide)) (fun _ hk => hk.2) (.int .i64 ((rd_T49 x1_2 x43_3).f0))) (fun _ hk => hk.2) (.int .i64 ((rd_T49 x1_2 x43_3).f1))) (fun _ h_ => h_.1))) hb); replace HO_10 := Aside0.mk (Kd.R_elder' (by (with_reducible repeat (first | apply Kd.R_alloc | apply Kd.R_drewN | apply Kd.R_drew)); exact (Kd.R_mono (Kd.R_far (p := ⟨gb261, 1, none⟩) (Kd.R_far (p := ⟨gb261, 0, none⟩) (Kd.R_mono HO_10.out (fun k_ hk => (⟨hk, hk.2⟩ : _ ∧ k_ ≠ gb261))) (fun _ hk => hk.2) (.int .i64 ((rd_T49 x1_2 x43_3).f0))) (fun _ hk => hk.2) (.int .i64 ((rd_T49 x1_2 x43_3).f1))) (fun _ h_ => h_.1))) (Kd.R_base ho0) hb); replace HO_41 := Aside0.mk (Kd.V_elder' (by (with_reducible repeat (first | apply Kd.V_alloc | apply Kd.V_drewN | apply Kd.V_drew)); exact (Kd.V_mono (Kd.V_far (p := ⟨gb261, 1, none⟩) (Kd.V_far (p := ⟨gb261, 0, none⟩) (Kd.V_mono HO_41.out (fun k_ hk => (⟨hk, hk.2⟩ : _ ∧ k_ ≠ gb261))) (fun _ hk => hk.2) (.int .i64 ((rd_T49 x1_2 x43_3).f0))) (fun _ hk => hk.2) (.int .i64 ((rd_T49 x1_2 x43_3).f1))) (fun _ h_ => h_.1))) (Kd.R_base ho0) hb); replace BK261 := Aside0.mk (blk_below (g := gb261) (o := .cells #[.int .i64 ((rd_T49 x1_2 x43_3).f0), .int .i64 ((rd_T49 x1_2 x43_3).f1)] 49 (0, 0)) (by (with_reducible repeat (first | refine blk_drewN ?_ _ | refine blk_drew ?_ | refine blk_alloc ?_ _)); refine blk_put (cs := #[.int .i64 ((rd_T49 x1_2 x43_3).f0), .int .i64 0]) ?_ 1 _ rfl; (with_reducible repeat (first | refine blk_drewN ?_ _ | refine blk_drew ?_ | refine blk_alloc ?_ _)); refine blk_put (cs := #[.int .i64 0, .int .i64 0]) ?_ 0 _ rfl; (with_reducible repeat (first | refine blk_drewN ?_ _ | refine blk_drew ?_ | refine blk_alloc ?_ _)); exact BK261.out) hb); replace HB := Aside0.mk (below_step bls_ hb); (try clear hb); (try clear hb2); (try clear hk); (try clear hi); (try clear ho0); obtain ⟨Ao36, co36, eo36⟩ := Kd.R_slice HO264.out; subst eo36) | ((with_reducible refine gate_callee (f := 28) rfl ?_); refine goesL_ (some 54) rfl rfl Tryd.func28 (by kernel_rfl) rfl #[.slice Ao18 t252.length co18, .slice Ao36 t262.length co36] rfl amp_ ?_; (with_reducible refine (spec_flFind.calls k3 _ _ t252 _ _ t262 t265 _ ?side1 ?side2 ?side3 ?side4 A27.out).mono ?_); (case side1 => exact cd_ (Kd.S_reads' HO_8.out).2.2); (case side2 => exact (Kd.S_reads' HO_8.out).2.1); (case side3 => exact cd_ (Kd.R_reads' HO264.out).2.2); (case side4 => exact (Kd.R_reads' HO264.out).2.1); rintro e w' ⟨rfl, ⟨nd, rfl⟩⟩; refine ⟨_, rfl, ?_⟩; have p266 : 0 ≤ (t265 : Int) := odt_; have q266 : t265 < (t255.length : Int) := odt_; obtain ⟨ad266, e266, hx266_0⟩ := Kd.at_int (Kd.R_reads' HO_9.out).2.2 t265 p266 q266; obtain rfl : ad259 = ad266 := (by injection e266); replace p266 := eq_true p266; replace q266 := eq_true q266; have hcz37_0 := blc_ (.int .i64 ((rd_T49 x1_2 x43_3).f0)) BK261 0; have hcz37_1 := blc_ (.int .i64 ((rd_T49 x1_2 x43_3).f1)) BK261 1; have hfz37_0 := blk_frozen BK261.out 0; have hfz37_1 := blk_frozen BK261.out 1) | ((with_reducible refine gate_builtin (b := .append) (xs := #[.tmp 61, .tmp 63]) rfl ?_); at_builtin; refine Kd.R_append k49 (w0 := w) w.heap.size rfl (.tmp 61) (.tmp 63) 28 49 (.agg #[(.int .i64 0), (.int .i64 0)]) 16 rfl Tryd.underlying28 info49 rfl (by decide) (by omega) u10 x10_3 (⟨(rd_T49 x1_2 x43_3).f0, (rd_T49 x1_2 x43_3).f1⟩ : S49) [.int .i64 ((rd_T49 x1_2 x43_3).f0), .int .i64 ((rd_T49 x1_2 x43_3).f1)] (fun k_ => (w.heap.size ≤ k_) ∧ some k_ ≠ (.slice Ao36 t262.length co36 : Value).ownBlock ∧ k_ ≠ gb261) (fun _ => False) rfl rfl ?aP (fun _ hk => hk.elim) ?aF ?aO ?aB ?aS ?aL ?_; (case aP => exact k49_mkM _ _ _ (⟨(rd_T49 x1_2 x43_3).f0, (rd_T49 x1_2 x43_3).f1⟩ : S49)); (case aB => exact bls_); (case aF => exact (fun k_ hk => ⟨(Nat.le_trans (below_size bls_) hk), Kd.fresh' (Kd.R_lt (ra_ HO264.out)) k_ hk, Kd.freshB (g := gb261) (o := .cells #[.int .i64 ((rd_T49 x1_2 x43_3).f0), .int .i64 ((rd_T49 x1_2 x43_3).f1)] 49 (0, 0)) (bk_ BK261.out) k_ hk⟩)); (case aO => exact (by (with_reducible repeat (first | apply Kd.R_alloc | apply Kd.R_drewN | apply Kd.R_drew)); exact Kd.R_mono HO_10.out (fun _ hk => ⟨hk.1.1, ⟨hk.2, hk.1.2⟩⟩))); (case aS => exact (below_size bls_)); (case aL => have := LMc31.out; omega); intro v268 w38 ho hb hg hat; rw [← Ny267.out] at ho; have HO269 := Aside0.mk (ho); replace HO_1 := Aside0.mk (Kd.V_afterv (ok := (fun k_ => (P1_ k_ ∨ w.heap.size ≤ k_) ∧ some k_ ≠ (.slice Ao18 t252.length co18 : Value).ownBlock ∧ some k_ ≠ (.slice (some ad259) t255.length co20 : Value).ownBlock ∧ some k_ ≠ (.slice Ao36 t262.length co36 : Value).ownBlock ∧ k_ ≠ gb261)) (by (with_reducible repeat (first | apply Kd.V_alloc | apply Kd.V_drewN | apply Kd.V_drew)); exact Kd.V_mono HO_1.out (fun _ hk => ⟨⟨hk.1.1.1, ⟨hk.1.1.2.1, ⟨hk.1.1.2.2.1, ⟨hk.2, hk.1.2⟩⟩⟩⟩, hk.1.1.2.2.2⟩)) hg hat); replace HO_8 := Aside0.mk (Kd.S_after (ok := (fun k_ => (w.heap.size ≤ k_) ∧ some k_ ≠ (.slice Ao36 t262.length co36 : Value).ownBlock ∧ k_ ≠ gb261)) (by (with_reducible repeat (first | apply Kd.S_alloc | apply Kd.S_drewN | apply Kd.S_drew)); exact Kd.S_mono HO_8.out (fun _ hk => ⟨⟨hk.1.1.1, ⟨hk.2, hk.1.2⟩⟩, hk.1.1.2⟩)) hg hat); replace HO_9 := Aside0.mk (Kd.R_over' (ra_ HO_9.out) (Kd.R_typed (ra_ HO_10.out)) (by decide) hg); replace HO_41 := Aside0.mk (Kd.V_afterv (ok := (fun k_ => (P1_ k_ ∨ w.heap.size ≤ k_) ∧ some k_ ≠ (.slice Ao18 t252.length co18 : Value).ownBlock ∧ some k_ ≠ (.slice (some ad259) t255.length co20 : Value).ownBlock ∧ some k_ ≠ (.slice Ao36 t262.length co36 : Value).ownBlock ∧ k_ ≠ gb261)) (by (with_reducible repeat (first | apply Kd.V_alloc | apply Kd.V_drewN | apply Kd.V_drew)); exact Kd.V_mono HO_41.out (fun _ hk => ⟨⟨hk.1.1.1, ⟨hk.1.1.2.1, ⟨hk.1.1.2.2.1, ⟨hk.2, hk.1.2⟩⟩⟩⟩, hk.1.1.2.2.2⟩)) hg hat); replace BK261 := Aside0.mk (blk_grown (g := gb261) (o := .cells #[.int .i64 ((rd_T49 x1_2 x43_3).f0), .int .i64 ((rd_T49 x1_2 x43_3).f1)] 49 (0, 0)) (bk_ BK261.out) hg (Kd.R_away HO_10.out (fun _ hk => hk.1.2))); replace HO264 := Aside0.mk (Kd.R_after (ok := (fun k_ => (w.heap.size ≤ k_) ∧ k_ ≠ gb261)) (by (with_reducible repeat (first | apply Kd.R_alloc | apply Kd.R_drewN | apply Kd.R_drew)); exact Kd.R_mono HO264.out (fun _ hk => ⟨⟨hk.1.1.1, hk.2⟩, hk.1.2⟩)) hg hat); replace HB := Aside0.mk (hb); clear HO_10; clear ho hb hg hat))
           go_roundg k3
           case measure => have := HJ3.out; have := HK2.out; have := HK3.out; omega
           case rel => exact ⟨(t262), (y267), (wrap64 (x11_2 - 1)), rsd_, H', ⟨by have := HJ3.out; have := HK2.out; have := HK3.out; omega⟩, ⟨Kd.V_mono (Kd.R_V (by (with_reducible repeat (first | apply Kd.R_alloc | apply Kd.R_drewN | apply Kd.R_drew)); exact Kd.R_mono (Kd.R_apart' (Kd.R_apart' HO264.out (Kd.S_typed HO_8.out) (by decide)) (Kd.R_typed HO_9.out) (by decide)) (fun _ hk => (⟨hk.1.1.1.1, ⟨hk.1.2, ⟨hk.2, hk.1.1.2⟩⟩⟩ : _ ∧ _ ∧ _ ∧ _)))) (fun k_ hk => by first | exact ⟨(.inr (hk.1)), hk.2⟩ | exact (.inr (hk)))⟩, ⟨by (with_reducible repeat (first | apply Kd.S_alloc | apply Kd.S_drewN | apply Kd.S_drew)); exact Kd.S_mono HO_8.out (fun _ hk => ⟨hk.1.1, hk.2⟩)⟩, ⟨ra_ HO_9.out⟩, ⟨by (with_reducible repeat (first | apply Kd.R_alloc | apply Kd.R_drewN | apply Kd.R_drew)); exact Kd.R_mono HO269.out (fun _ hk => hk.1)⟩, ⟨bls_⟩⟩
          ·rw [if_neg c30] at H
           have c30b0 : ((rd t255 t265) == (wrap64 (x11_2 - 1))) = false := beq_eq_false_iff_ne.mpr c30
           have c30b1 : ((rd t255 t265) != (wrap64 (x11_2 - 1))) = true := bne_iff_ne.mpr c30
           have H' := Aside0.mk H
           clear H
           have p260 : 0 ≤ (x43_3 : Int) := odt_
           have q260 : x43_3 < (x1_2.length : Int) := odt_
           obtain ⟨ad260, e260, hx260_0, hx260_1⟩ := at_T49 (Kd.V_reads' HO_41.out).2.2 x43_3 p260 q260
           cases e260
           replace p260 := eq_true p260
           replace q260 := eq_true q260
           go_wp2_with (first | ((with_reducible refine gate_dst (N := 13) rfl ?_); refine bxe_ 13 #[.int .i64 0, .int .i64 0] 49 ?_; intro gb261 hg w39 hbox hb; have BK261 := Aside0.mk (hbox); have GW261 := gz_ w hg; have GE261 := gz_ w hg; replace HO_1 := Aside0.mk (Kd.V_below (Kd.V_elderB (va_ HO_1.out) gb261 (Nat.le_of_eq hg.symm)) hb); replace HO_8 := Aside0.mk (Kd.S_below (Kd.S_elderB (sa_ HO_8.out) gb261 (Nat.le_of_eq hg.symm)) hb); replace HO_9 := Aside0.mk (Kd.R_below (ra_ HO_9.out) hb); replace HO_10 := Aside0.mk (Kd.R_below (Kd.R_elderB (ra_ HO_10.out) gb261 (Nat.le_of_eq hg.symm)) hb); replace HO_41 := Aside0.mk (Kd.V_below (Kd.V_elderB (va_ HO_41.out) gb261 (Nat.le_of_eq hg.symm)) hb); replace HB := Aside0.mk (below_step blw_ hb); clear hb hbox hg; have hcz40_0 := blc_ (.int .i64 0) BK261 0; have hcz40_1 := blc_ (.int .i64 0) BK261 1; have hfz40_0 := blk_frozen BK261.out 0; have hfz40_1 := blk_frozen BK261.out 1; obtain ⟨Ao41, co41, eo41⟩ := Kd.V_slice HO_1.out; subst eo41) | ((with_reducible refine gate_callee (f := 34) rfl ?_); refine goesL_ (some 50) rfl rfl Tryd.func34 (by kernel_rfl) rfl #[.int .i64 a0, .slice Ao41 x1_3.length co41, .agg #[.int .i64 ((rd_T49 x1_2 x43_3).f0), .int .i64 ((rd_T49 x1_2 x43_3).f1)]] rfl amp_ ?_; (with_reducible refine (spec_flMake.calls k3 a0 _ _ x1_3 ((rd_T49 x1_2 x43_3).f0) ((rd_T49 x1_2 x43_3).f1) t262 _ ?side1 ?side2 A26.out).mono ?_); (case side1 => refine (Kd.V_reads' (e := 49) (base := w.heap.size) (ok := fun k_ => (((P1_ k_ ∨ w.heap.size ≤ k_) ∧ (some k_ ≠ (.slice Ao18 t252.length co18 : Value).ownBlock ∧ (some k_ ≠ (.slice (some ad259) t255.length co20 : Value).ownBlock ∧ some k_ ≠ (u10 : Value).ownBlock))) ∧ k_ ≠ gb261)) (n := x1_3.length) (c := co41) ?_).2.2; exact (by (with_reducible repeat (first | apply Kd.V_alloc | apply Kd.V_drewN | apply Kd.V_drew)); exact (Kd.V_mono (Kd.V_far (p := ⟨gb261, 1, none⟩) (Kd.V_far (p := ⟨gb261, 0, none⟩) (Kd.V_mono HO_1.out (fun k_ hk => (⟨hk, hk.2⟩ : _ ∧ k_ ≠ gb261))) (fun _ hk => hk.2) (.int .i64 ((rd_T49 x1_2 x43_3).f0))) (fun _ hk => hk.2) (.int .i64 ((rd_T49 x1_2 x43_3).f1))) (fun _ h_ => h_.1)))); (case side2 => exact (Kd.V_reads' HO_1.out).2.1); rintro e w42 ⟨v263, rfl, ho0, hb⟩; refine ⟨_, rfl, ?_⟩; have HO264 := Aside0.mk (Kd.R_lower (Kd.R_newB (Kd.R_new' (Kd.R_newM (M := fun k_ => (w.heap.size ≤ k_)) ho0 (below_size bls_) (fun k_ h_ => h_)) (Kd.R_lt (by (with_reducible repeat (first | apply Kd.R_alloc | apply Kd.R_drewN | apply Kd.R_drew)); exact (Kd.R_mono (Kd.R_far (p := ⟨gb261, 1, none⟩) (Kd.R_far (p := ⟨gb261, 0, none⟩) (Kd.R_mono HO_10.out (fun k_ hk => (⟨hk, hk.2⟩ : _ ∧ k_ ≠ gb261))) (fun _ hk => hk.2) (.int .i64 ((rd_T49 x1_2 x43_3).f0))) (fun _ hk => hk.2) (.int .i64 ((rd_T49 x1_2 x43_3).f1))) (fun _ h_ => h_.1))))) (g := gb261) (o := .cells #[.int .i64 ((rd_T49 x1_2 x43_3).f0), .int .i64 ((rd_T49 x1_2 x43_3).f1)] 49 (0, 0)) (by (with_reducible repeat (first | refine blk_drewN ?_ _ | refine blk_drew ?_ | refine blk_alloc ?_ _)); refine blk_put (cs := #[.int .i64 ((rd_T49 x1_2 x43_3).f0), .int .i64 0]) ?_ 1 _ rfl; (with_reducible repeat (first | refine blk_drewN ?_ _ | refine blk_drew ?_ | refine blk_alloc ?_ _)); refine blk_put (cs := #[.int .i64 0, .int .i64 0]) ?_ 0 _ rfl; (with_reducible repeat (first | refine blk_drewN ?_ _ | refine blk_drew ?_ | refine blk_alloc ?_ _)); exact BK261.out)) (below_size bls_)); replace HO_1 := Aside0.mk (Kd.V_elder' (by (with_reducible repeat (first | apply Kd.V_alloc | apply Kd.V_drewN | apply Kd.V_drew)); exact (Kd.V_mono (Kd.V_far (p := ⟨gb261, 1, none⟩) (Kd.V_far (p := ⟨gb261, 0, none⟩) (Kd.V_mono HO_1.out (fun k_ hk => (⟨hk, hk.2⟩ : _ ∧ k_ ≠ gb261))) (fun _ hk => hk.2) (.int .i64 ((rd_T49 x1_2 x43_3).f0))) (fun _ hk => hk.2) (.int .i64 ((rd_T49 x1_2 x43_3).f1))) (fun _ h_ => h_.1))) (Kd.R_base ho0) hb); replace HO_8 := Aside0.mk (Kd.S_elder' (by (with_reducible repeat (first | apply Kd.S_alloc | apply Kd.S_drewN | apply Kd.S_drew)); exact (Kd.S_mono (Kd.S_far (p := ⟨gb261, 1, none⟩) (Kd.S_far (p := ⟨gb261, 0, none⟩) (Kd.S_mono HO_8.out (fun k_ hk => (⟨hk, hk.2⟩ : _ ∧ k_ ≠ gb261))) (fun _ hk => hk.2) (.int .i64 ((rd_T49 x1_2 x43_3).f0))) (fun _ hk => hk.2) (.int .i64 ((rd_T49 x1_2 x43_3).f1))) (fun _ h_ => h_.1))) (Kd.R_base ho0) hb); replace HO_9 := Aside0.mk (Kd.R_below (by (with_reducible repeat (first | apply Kd.R_alloc | apply Kd.R_drewN | apply Kd.R_drew)); exact (Kd.R_mono (Kd.R_far (p := ⟨gb261, 1, none⟩) (Kd.R_far (p := ⟨gb261, 0, none⟩) (Kd.R_types HO_9.out BK261.out (by decide)) (fun _ hk => hk.2) (.int .i64 ((rd_T49 x1_2 x43_3).f0))) (fun _ hk => hk.2) (.int .i64 ((rd_T49 x1_2 x43_3).f1))) (fun _ h_ => h_.1))) hb); replace HO_10 := Aside0.mk (Kd.R_elder' (by (with_reducible repeat (first | apply Kd.R_alloc | apply Kd.R_drewN | apply Kd.R_drew)); exact (Kd.R_mono (Kd.R_far (p := ⟨gb261, 1, none⟩) (Kd.R_far (p := ⟨gb261, 0, none⟩) (Kd.R_mono HO_10.out (fun k_ hk => (⟨hk, hk.2⟩ : _ ∧ k_ ≠ gb261))) (fun _ hk => hk.2) (.int .i64 ((rd_T49 x1_2 x43_3).f0))) (fun _ hk => hk.2) (.int .i64 ((rd_T49 x1_2 x43_3).f1))) (fun _ h_ => h_.1))) (Kd.R_base ho0) hb); replace HO_41 := Aside0.mk (Kd.V_elder' (by (with_reducible repeat (first | apply Kd.V_alloc | apply Kd.V_drewN | apply Kd.V_drew)); exact (Kd.V_mono (Kd.V_far (p := ⟨gb261, 1, none⟩) (Kd.V_far (p := ⟨gb261, 0, none⟩) (Kd.V_mono HO_41.out (fun k_ hk => (⟨hk, hk.2⟩ : _ ∧ k_ ≠ gb261))) (fun _ hk => hk.2) (.int .i64 ((rd_T49 x1_2 x43_3).f0))) (fun _ hk => hk.2) (.int .i64 ((rd_T49 x1_2 x43_3).f1))) (fun _ h_ => h_.1))) (Kd.R_base ho0) hb); replace BK261 := Aside0.mk (blk_below (g := gb261) (o := .cells #[.int .i64 ((rd_T49 x1_2 x43_3).f0), .int .i64 ((rd_T49 x1_2 x43_3).f1)] 49 (0, 0)) (by (with_reducible repeat (first | refine blk_drewN ?_ _ | refine blk_drew ?_ | refine blk_alloc ?_ _)); refine blk_put (cs := #[.int .i64 ((rd_T49 x1_2 x43_3).f0), .int .i64 0]) ?_ 1 _ rfl; (with_reducible repeat (first | refine blk_drewN ?_ _ | refine blk_drew ?_ | refine blk_alloc ?_ _)); refine blk_put (cs := #[.int .i64 0, .int .i64 0]) ?_ 0 _ rfl; (with_reducible repeat (first | refine blk_drewN ?_ _ | refine blk_drew ?_ | refine blk_alloc ?_ _)); exact BK261.out) hb); replace HB := Aside0.mk (below_step bls_ hb); (try clear hb); (try clear hb2); (try clear hk); (try clear hi); (try clear ho0); obtain ⟨Ao43, co43, eo43⟩ := Kd.R_slice HO264.out; subst eo43) | ((with_reducible refine gate_callee (f := 28) rfl ?_); refine goesL_ (some 54) rfl rfl Tryd.func28 (by kernel_rfl) rfl #[.slice Ao18 t252.length co18, .slice Ao43 t262.length co43] rfl amp_ ?_; (with_reducible refine (spec_flFind.calls k3 _ _ t252 _ _ t262 t265 _ ?side1 ?side2 ?side3 ?side4 A27.out).mono ?_); (case side1 => exact cd_ (Kd.S_reads' HO_8.out).2.2); (case side2 => exact (Kd.S_reads' HO_8.out).2.1); (case side3 => exact cd_ (Kd.R_reads' HO264.out).2.2); (case side4 => exact (Kd.R_reads' HO264.out).2.1); rintro e w' ⟨rfl, ⟨nd, rfl⟩⟩; refine ⟨_, rfl, ?_⟩; have p266 : 0 ≤ (t265 : Int) := odt_; have q266 : t265 < (t255.length : Int) := odt_; obtain ⟨ad266, e266, hx266_0⟩ := Kd.at_int (Kd.R_reads' HO_9.out).2.2 t265 p266 q266; obtain rfl : ad259 = ad266 := (by injection e266); replace p266 := eq_true p266; replace q266 := eq_true q266))
           go_roundg k3
           case measure => have := HJ3.out; have := HK2.out; have := HK3.out; omega
           case rel => exact ⟨(x1_3), (x10_3), (wrap64 (x43_3 + 1)), rsd_, H', ⟨by have := HJ3.out; have := HK2.out; have := HK3.out; omega⟩, ⟨by (with_reducible repeat (first | apply Kd.V_alloc | apply Kd.V_drewN | apply Kd.V_drew)); exact Kd.V_mono HO_1.out (fun _ hk => ⟨hk.1.1.1, ⟨hk.1.1.2.1, ⟨hk.1.1.2.2.1, hk.1.1.2.2.2⟩⟩⟩)⟩, ⟨by (with_reducible repeat (first | apply Kd.S_alloc | apply Kd.S_drewN | apply Kd.S_drew)); exact Kd.S_mono HO_8.out (fun _ hk => ⟨hk.1.1.1, hk.1.1.2⟩)⟩, ⟨ra_ HO_9.out⟩, ⟨by (with_reducible repeat (first | apply Kd.R_alloc | apply Kd.R_drewN | apply Kd.R_drew)); exact Kd.R_mono HO_10.out (fun _ hk => hk.1.1)⟩, ⟨by (with_reducible repeat (first | apply Kd.V_alloc | apply Kd.V_drewN | apply Kd.V_drew)); exact Kd.V_mono HO_41.out (fun _ hk => ⟨hk.1.1.1, ⟨hk.1.1.2.1, ⟨hk.1.1.2.2.1, hk.1.1.2.2.2⟩⟩⟩)⟩, ⟨bls_⟩⟩
         ·rw [if_neg c23] at H
          have c23b0 : decide (x43_3 < (x1_2.length : Int)) = false := decide_eq_false c23
          clear c23
          have H' := Aside0.mk H
          clear H
          go_wp2
          go_roundg k3
          case measure => have := HJ3.out; have := HK2.out; have := HK3.out; omega
          case rel => exact ⟨(x1_3), (x10_3), (wrap64 (x11_2 - 1)), rsd_, H', ⟨by have := HJ3.out; have := HK2.out; have := HK3.out; omega⟩, ⟨va_ HO_1.out⟩, ⟨sa_ HO_8.out⟩, ⟨ra_ HO_9.out⟩, ⟨ra_ HO_10.out⟩, ⟨blw_⟩⟩
      ·rw [if_neg c21] at H
       have c21b0 : decide (0 < x11_2) = false := decide_eq_false c21
       clear c21
       simp only [Option.some.injEq, Prod.mk.injEq] at H
       obtain ⟨rfl, rfl⟩ := H
       go_wp2
       go_ret2
       exact ⟨_, by first | rfl | (simp [errW_none, errW_some] <;> rfl) | (simp [*, errW_none, errW_some] <;> rfl), by (with_reducible repeat (first | apply Kd.R_alloc | apply Kd.R_drewN | apply Kd.R_drew)); exact HO_10.out, blw_⟩

/-! ### impl_Diagonal_43: function 43 -/
def impl_Diagonal_43.f (l0 : List S49) : Option (List S49) := if l0.length < 8796093022208 then some l0 else none
set_option maxHeartbeats 4000000 in
set_option maxRecDepth 100000 in
theorem impl_Diagonal_43.calls (A0 : Option Addr) (c0 : Nat) (l0 : List S49) (r : List S49) (w : World) (hr0 : Kd.C k49 w A0 l0.length l0) (hc0 : l0.length ≤ c0) (h : impl_Diagonal_43.f l0 = some r) :
  Calls Tryd.prog 43 #[.slice A0 l0.length c0] w fun e w' => ∃ v0_ : Value, e = .returned (v0_) ∧ Kd.R k49 49 w' w.heap.size (fun _ => True) v0_ r ∧ Below w.heap.size w w' := by
 have H : (if l0.length < 8796093022208 then some l0 else none) = some r := h
 clear h
 by_cases c2 : l0.length < 8796093022208
 ·rw [if_pos c2] at H
  obtain rfl := Option.some.inj H
  clear H
  rcases A0 with _ | ad
  ·have hl : l0 = [] := by
    rcases Nat.eq_zero_or_pos l0.length with h0 | h0
    ·exact List.eq_nil_of_length_eq_zero h0
    ·obtain ⟨ad, e, _⟩ := hr0.2.2 h0
     cases e
   subst hl
   have hcmp := fun w => Lib.run_eql_slice_nil (P := Tryd.prog) w 28 49 none 0 c0 0 0 Tryd.underlying28
   show Calls Tryd.prog 43 #[.slice none 0 c0] w _
   clear hr0 hc0
   go_enter Tryd.func43, Tryd.ntmps43
   go_wp2
   go_ret
   exact ⟨.slice none 0 0, rfl, Kd.R_nil _ _ _ _ _, Below.refl _ _⟩
  ·have HR0 := Aside0.mk hr0
   have LM := Aside0.mk c2
   have hcmp := fun w => Lib.run_eql_slice_nil (P := Tryd.prog) w 28 49 (some ad) l0.length c0 0 0 Tryd.underlying28
   have HB := Aside0.mk (Below.refl w.heap.size w)
   clear hr0 hc0 c2
   go_enter Tryd.func43, Tryd.ntmps43
   go_wp2_with (first | ((with_reducible refine gate_dst (N := 5) rfl ?_); refine Kd.R_lit k49 _ 49 ?hg (N := 5) ?hd (xs := ([] : List S49)) (inner := []) (ok := fun _ => True) (okp := fun _ => True) ?hr ?hp (fun _ hk => hk) trivial (Below.refl _ _) (Nat.le_refl _) (by simp) ?_; (case hd => rfl); (case hg => rfl); (case hr => first | (go_simp; done) | (go_simp; rfl)); (case hp => exact (Reps.none _ _)); intro v117 w3 ho4 hb hg_ hnew_; clear hg_ hnew_; have HO118 := Aside0.mk (Kd.R_lower ho4 (below_size blw_)); replace HB := Aside0.mk (below_step blw_ hb); clear hb ho4) | ((with_reducible refine gate_builtin (b := .append) (xs := #[.tmp 5, .tmp 6]) rfl ?_); at_builtin; refine Kd.R_append_rows k49 (w0 := w) w.heap.size rfl (.tmp 5) (.tmp 6) 28 49 (.agg #[(.int .i64 0), (.int .i64 0)]) 16 rfl Tryd.underlying28 info49 rfl (by decide) (by omega) v117 [] l0 _ _ _ (fun _ => True) (fun _ => False) rfl rfl ?aO ?aR (fun _ _ h => h) (fun _ h => h.elim) ?aF ?aB ?aS ?aL ?_; (case aR => repeat (first | exact (Kd.C_below HR0.out HB.out) | (with_reducible refine Kd.C_alloc ?_ _) | (with_reducible refine Kd.C_drewN ?_ _) | (with_reducible refine Kd.C_drew ?_))); (case aB => exact blw_); (case aF => exact (fun _ _ => trivial)); (case aO => exact (ra_ HO118.out)); (case aS => exact (below_size blw_)); (case aL => have := LM.out; simp only [List.length_nil]; omega); intro v120 w5 ho hb hg hat; rw [List.nil_append] at ho; have HO121 := Aside0.mk (ho); replace HB := Aside0.mk (hb); clear HO118; clear ho hb hg hat))
   go_ret
   exact ⟨_, rfl, by (with_reducible repeat (first | apply Kd.R_alloc | apply Kd.R_drewN | apply Kd.R_drew)); exact HO121.out, blw_⟩
 ·rw [if_neg c2] at H
  cases H


/-! ### impl_within: function 24 -/
def impl_within.f (a0 : Int) (a1 : Int) (a2 : Int) : Option (Bool) := if a0 ≥ a1 then (some (decide (a0 ≤ a2))) else (some false)
set_option maxHeartbeats 8000000 in
set_option maxRecDepth 100000 in
theorem impl_within.calls (a0 : Int) (a1 : Int) (a2 : Int) (r : Bool) (w : World) (h : impl_within.f a0 a1 a2 = some r) :
  Calls Tryd.prog 24 #[.int .i64 a0, .int .i64 a1, .int .i64 a2] w fun e w' => e = .returned (.bool r) ∧ Drawn0 w w' := by
 have H : (if a0 ≥ a1 then (some (decide (a0 ≤ a2))) else (some false)) = some r := h
 clear h
 by_cases c4 : a0 ≥ a1
 ·rw [if_pos c4] at H
  have c4b0 : decide (a1 ≤ a0) = true := decide_eq_true c4
  clear c4
  obtain rfl := Option.some.inj H
  go_enter Tryd.func24, Tryd.ntmps24
  go_wp2
  go_ret
  exact dr_
 ·rw [if_neg c4] at H
  have c4b0 : decide (a1 ≤ a0) = false := decide_eq_false c4
  clear c4
  obtain rfl := Option.some.inj H
  go_enter Tryd.func24, Tryd.ntmps24
  go_wp2
  go_ret
  exact dr_

/-! ### impl_Diagonal_55: function 55 -/
def impl_Diagonal_55.l0 : Nat → List (S49) → Int → Int → Int → Int → Option (Int)
 | 0, _, _, _, _, _ => none
 | k + 1, x0, x7, x8, x271000, x271001 => if x8 < x7 then (if 0 ≤ x8 then (if x8 < (x0.length : Int) then (if (x271000 == ((rd_T49 x0 x8).f0) && (x271001 == ((rd_T49 x0 x8).f1))) = true then (some x8) else (impl_Diagonal_55.l0 k x0 x7 (wrap64 (x8 + 1)) x271000 x271001)) else (none)) else (none)) else (some (-1))
def impl_Diagonal_55.f (k : Nat) (l0 : List (S49)) (a1_0 : Int) (a1_1 : Int) : Option (Int) := impl_Diagonal_55.l0 k l0 (l0.length : Int) 0 a1_0 a1_1
theorem impl_Diagonal_55.mono_l : ∀ k, (∀ y0 y1 y2 y3 y4, LeO (impl_Diagonal_55.l0 k y0 y1 y2 y3 y4) (impl_Diagonal_55.l0 (k + 1) y0 y1 y2 y3 y4))
 | 0 => fun _ _ _ _ _ r h => by simp [impl_Diagonal_55.l0] at h
 | k + 1 => by
  have ih0 := impl_Diagonal_55.mono_l k
  ·intro y0 y1 y2 y3 y4
   unfold impl_Diagonal_55.l0
   repeat' first
   | (with_reducible exact ih0 _ _ _ _ _)
   | (with_reducible exact LeO.refl _)
   | (with_reducible exact LeO.none _)
   | (with_reducible refine LeO.ite ?_ ?_)
   | (with_reducible refine LeO.bind ?_ (fun _ => ?_))
   | exact ih0 _ _ _ _ _
   | exact LeO.none _
   | refine LeO.ite ?_ ?_
   | refine LeO.bind ?_ (fun _ => ?_)
theorem impl_Diagonal_55.mono : ∀ a0 a1 a2 k, LeO (impl_Diagonal_55.f k a0 a1 a2) (impl_Diagonal_55.f (k + 1) a0 a1 a2) := by
 intro a0 a1 a2 k
 have ih0 := impl_Diagonal_55.mono_l k
 unfold impl_Diagonal_55.f
 repeat' first
   | (with_reducible exact ih0 _ _ _ _ _)
   | (with_reducible exact LeO.refl _)
   | (with_reducible exact LeO.none _)
   | (with_reducible refine LeO.ite ?_ ?_)
   | (with_reducible refine LeO.bind ?_ (fun _ => ?_))
   | exact ih0 _ _ _ _ _
   | exact LeO.none _
   | refine LeO.ite ?_ ?_
   | refine LeO.bind ?_ (fun _ => ?_)
set_option maxHeartbeats 8000000 in
set_option maxRecDepth 100000 in
theorem impl_Diagonal_55.calls (k : Nat) (A0 : Option Addr) (c0 : Nat) (l0 : List (S49)) (a1_0 : Int) (a1_1 : Int) (r : Int) (w : World) (hr0 : Kd.C k49 w A0 l0.length l0) (hc0 : l0.length ≤ c0) (h : impl_Diagonal_55.f k l0 a1_0 a1_1 = some r) :
  Calls Tryd.prog 55 #[.slice A0 l0.length c0, .agg #[.int .i64 a1_0, .int .i64 a1_1]] w fun e w' => e = .returned (.int .i64 r) ∧ Below w.heap.size w w' := by
 have hu49 := Tryd.underlying49
 have HR0 := Aside0.mk hr0
 have HC0 := Aside0.mk hc0
 clear hr0 hc0
 have HB := Aside0.mk (Below.refl w.heap.size w)
 have H : (impl_Diagonal_55.l0 k l0 (l0.length : Int) 0 a1_0 a1_1) = some r := h
 clear h
 have H' := Aside0.mk H
 clear H
 go_enter Tryd.func55, Tryd.ntmps55
 go_wp2_with (first | ((with_reducible refine gate_dst (N := 3) rfl ?_); refine bxe_ 3 #[.int .i64 a1_0, .int .i64 a1_1] 49 ?_; intro gb270 hg w3 hbox hb; have BK270 := Aside0.mk (hbox); have GW270 := gz_ w hg; have GE270 := gz_ w hg; replace HB := Aside0.mk (below_step blw_ hb); clear hb hbox hg))
 repeat (go_quiet (first | ((with_reducible refine gate_dst (N := 3) rfl ?_); refine bxe_ 3 #[.int .i64 a1_0, .int .i64 a1_1] 49 ?_; intro gb270 hg w3 hbox hb; have BK270 := Aside0.mk (hbox); have GW270 := gz_ w hg; have GE270 := gz_ w hg; replace HB := Aside0.mk (below_step blw_ hb); clear hb hbox hg)); try go_wp2_with (first | ((with_reducible refine gate_dst (N := 3) rfl ?_); refine bxe_ 3 #[.int .i64 a1_0, .int .i64 a1_1] 49 ?_; intro gb270 hg w3 hbox hb; have BK270 := Aside0.mk (hbox); have GW270 := gz_ w hg; have GE270 := gz_ w hg; replace HB := Aside0.mk (below_step blw_ hb); clear hb hbox hg)))
 go_loopg [8] k (fun kq v8 w' => ∃ (x8_1 : Int), v8 = .int .i64 x8_1 ∧ Aside0 (impl_Diagonal_55.l0 kq l0 (l0.length : Int) x8_1 a1_0 a1_1 = some r) ∧ Aside0 (kq ≤ k) ∧ Aside0 (w'.heap[gb270]? = some (.cells #[.int .i64 a1_0, .int .i64 a1_1] 49 (0, 0))) ∧ Aside0 (Below w.heap.size w w'))
 case atStart => exact ⟨(0), rsd_, H', ⟨Nat.le_refl _⟩, ⟨bk_ BK270.out⟩, ⟨bls_⟩⟩
 case round =>
  clear H'
  try clear p2
  obtain ⟨x8_1, rfl, HA, HK1, BK270, HB⟩ := hrel
  cases gk with
  | zero => exact absurd HA.out (by simp [impl_Diagonal_55.l0])
  | succ k1 =>
   have H := HA.out
   clear HA
   simp only [impl_Diagonal_55.l0] at H
   by_cases c4 : x8_1 < (l0.length : Int)
   ·rw [if_pos c4] at H
    have c4b0 : decide (x8_1 < (l0.length : Int)) = true := decide_eq_true c4
    clear c4
    by_cases c5 : 0 ≤ x8_1
    case neg=>rw [if_neg c5] at H;exact absurd H (by simp)
    rw [if_pos c5] at H
    have c5b0 : decide (0 ≤ x8_1) = true := decide_eq_true c5
    clear c5
    by_cases c6 : x8_1 < (l0.length : Int)
    case neg=>rw [if_neg c6] at H;exact absurd H (by simp)
    rw [if_pos c6] at H
    have c6b0 : decide (x8_1 < (l0.length : Int)) = true := decide_eq_true c6
    clear c6
    by_cases c7 : (a1_0 == ((rd_T49 l0 x8_1).f0) && (a1_1 == ((rd_T49 l0 x8_1).f1))) = true
    ·rw [if_pos c7] at H
     have c7b0 : (a1_0 == ((rd_T49 l0 x8_1).f0) && (a1_1 == ((rd_T49 l0 x8_1).f1))) = true := c7
     (try (have c7b1 : decide (a1_0 = ((rd_T49 l0 x8_1).f0) && (a1_1 == ((rd_T49 l0 x8_1).f1))) = true := by simpa using c7))
     (try (have c7b2 : (a1_0 == ((rd_T49 l0 x8_1).f0) && (a1_1 == ((rd_T49 l0 x8_1).f1))) = true := by simpa using c7))
     clear c7
     obtain rfl := Option.some.inj H
     have hcz8_0 := blc_ (.int .i64 a1_0) BK270 0
     have hcz8_1 := blc_ (.int .i64 a1_1) BK270 1
     have hfz8_0 := blk_frozen BK270.out 0
     have hfz8_1 := blk_frozen BK270.out 1
     have p271 : 0 ≤ (x8_1 : Int) := odt_
     have q271 : x8_1 < (l0.length : Int) := odt_
     obtain ⟨ad271, e271, hx271_0, hx271_1⟩ := at_T49 HR0.out x8_1 p271 q271
     cases e271
     (first | replace hx271_0 := (HB.out.cell (World.block_lt_of_cell? w _ hx271_0)).trans hx271_0 | skip)
     (first | replace hx271_1 := (HB.out.cell (World.block_lt_of_cell? w _ hx271_1)).trans hx271_1 | skip)
     replace p271 := eq_true p271
     replace q271 := eq_true q271
     go_wp2
     repeat (go_quiet (fail); try go_wp2)
     go_ret
     exact er_
    ·rw [if_neg c7] at H
     have c7b0 : (a1_0 == ((rd_T49 l0 x8_1).f0) && (a1_1 == ((rd_T49 l0 x8_1).f1))) = false := by simpa using c7
     (try (have c7b1 : decide (a1_0 = ((rd_T49 l0 x8_1).f0) && (a1_1 == ((rd_T49 l0 x8_1).f1))) = false := by simpa using c7))
     (try (have c7b2 : (a1_0 == ((rd_T49 l0 x8_1).f0) && (a1_1 == ((rd_T49 l0 x8_1).f1))) = false := by simpa using c7))
     (try (have c7b3 : ¬ (a1_0 = ((rd_T49 l0 x8_1).f0) && (a1_1 == ((rd_T49 l0 x8_1).f1))) := by simpa using c7))
     clear c7
     have H' := Aside0.mk H
     clear H
     have hcz9_0 := blc_ (.int .i64 a1_0) BK270 0
     have hcz9_1 := blc_ (.int .i64 a1_1) BK270 1
     have hfz9_0 := blk_frozen BK270.out 0
     have hfz9_1 := blk_frozen BK270.out 1
     have p271 : 0 ≤ (x8_1 : Int) := odt_
     have q271 : x8_1 < (l0.length : Int) := odt_
     obtain ⟨ad271, e271, hx271_0, hx271_1⟩ := at_T49 HR0.out x8_1 p271 q271
     cases e271
     (first | replace hx271_0 := (HB.out.cell (World.block_lt_of_cell? w _ hx271_0)).trans hx271_0 | skip)
     (first | replace hx271_1 := (HB.out.cell (World.block_lt_of_cell? w _ hx271_1)).trans hx271_1 | skip)
     replace p271 := eq_true p271
     replace q271 := eq_true q271
     go_wp2
     repeat (go_quiet (fail); try go_wp2)
     go_roundg k1
     case measure => have := HK1.out; omega
     case rel => exact ⟨(wrap64 (x8_1 + 1)), rsd_, H', ⟨by have := HK1.out; omega⟩, ⟨bk_ BK270.out⟩, ⟨bls_⟩⟩
   ·rw [if_neg c4] at H
    have c4b0 : decide (x8_1 < (l0.length : Int)) = false := decide_eq_false c4
    clear c4
    obtain rfl := Option.some.inj H
    go_wp2
    repeat (go_quiet (fail); try go_wp2)
    go_ret
    exact er_

/-! ### impl_Diagonal_99: function 99 -/
def impl_Diagonal_99.f (k : Nat) (l0 : List (S49)) (a1_0 : Int) (a1_1 : Int) : Option (Bool) := (impl_Diagonal_55.f k l0 a1_0 a1_1).bind fun t273 => (some (decide (t273 ≥ 0)))
theorem impl_Diagonal_99.mono : ∀ a0 a1 a2 k, LeO (impl_Diagonal_99.f k a0 a1 a2) (impl_Diagonal_99.f (k + 1) a0 a1 a2) := by
 intro a0 a1 a2 k
 unfold impl_Diagonal_99.f
 repeat' first
   | (with_reducible exact impl_Diagonal_55.mono _ _ _ _)
   | (with_reducible exact LeO.refl _)
   | (with_reducible exact LeO.none _)
   | (with_reducible refine LeO.ite ?_ ?_)
   | (with_reducible refine LeO.bind ?_ (fun _ => ?_))
   | exact impl_Diagonal_55.mono _ _ _ _
   | exact LeO.none _
   | refine LeO.ite ?_ ?_
   | refine LeO.bind ?_ (fun _ => ?_)
set_option maxHeartbeats 8000000 in
set_option maxRecDepth 100000 in
theorem impl_Diagonal_99.calls (k : Nat) (A0 : Option Addr) (c0 : Nat) (l0 : List (S49)) (a1_0 : Int) (a1_1 : Int) (r : Bool) (w : World) (hr0 : Kd.C k49 w A0 l0.length l0) (hc0 : l0.length ≤ c0) (h : impl_Diagonal_99.f k l0 a1_0 a1_1 = some r) :
  Calls Tryd.prog 99 #[.slice A0 l0.length c0, .agg #[.int .i64 a1_0, .int .i64 a1_1]] w fun e w' => e = .returned (.bool r) ∧ Below w.heap.size w w' := by
 have hu49 := Tryd.underlying49
 have HR0 := Aside0.mk hr0
 have HC0 := Aside0.mk hc0
 clear hr0 hc0
 have HB := Aside0.mk (Below.refl w.heap.size w)
 have H : ((impl_Diagonal_55.f k l0 a1_0 a1_1).bind fun t273 => (some (decide (t273 ≥ 0)))) = some r := h
 clear h
 replace H := Option.bind_eq_some_iff.mp H
 obtain ⟨t273, A30, H⟩ := H
 replace H : (some (decide (t273 ≥ 0))) = some r := H
 have A3 := Aside0.mk A30
 clear A30
 obtain rfl := Option.some.inj H
 go_enter Tryd.func99, Tryd.ntmps99
 go_wp2_with (first | ((with_reducible refine gate_dst (N := 3) rfl ?_); refine bxe_ 3 #[.int .i64 a1_0, .int .i64 a1_1] 49 ?_; intro gb272 hg w4 hbox hb; have BK272 := Aside0.mk (hbox); have GW272 := gz_ w hg; have GE272 := gz_ w hg; replace HB := Aside0.mk (below_step blw_ hb); clear hb hbox hg; have hcz5_0 := blc_ (.int .i64 a1_0) BK272 0; have hcz5_1 := blc_ (.int .i64 a1_1) BK272 1; have hfz5_0 := blk_frozen BK272.out 0; have hfz5_1 := blk_frozen BK272.out 1) | ((with_reducible refine gate_callee (f := 55) rfl ?_); refine goesL_ (some 7) rfl rfl Tryd.func55 (by kernel_rfl) rfl #[.slice A0 l0.length c0, .agg #[.int .i64 a1_0, .int .i64 a1_1]] rfl amp_ ?_; (with_reducible refine (impl_Diagonal_55.calls k _ _ l0 a1_0 a1_1 t273 _ ?side1 ?side2 A3.out).mono ?_); (case side1 => exact cd_ (Kd.C_below HR0.out HB.out)); (case side2 => exact HC0.out); rintro e w6 ⟨rfl, hb⟩; refine ⟨_, rfl, ?_⟩; replace BK272 := bb_ BK272 hb; replace HB := Aside0.mk (below_step bls_ hb); (try clear hb); (try clear hb2); (try clear hk); (try clear hi)))
 go_ret
 exact er_

/-! ### impl_isSide: function 80 -/
def impl_isSide.f (k : Nat) (a0 : Int) (l1 : List (S49)) (a2 : Int) (a3 : Int) : Option (Bool) := if (mx a2 a3) = (wrap64 ((mn a2 a3) + 1)) then (some true) else (if (mn a2 a3) = 0 then (if (mx a2 a3) = (wrap64 (a0 - 1)) then (some true) else ((impl_Diagonal_99.f k l1 (mn a2 a3) (mx a2 a3)).bind fun t274 => (some t274))) else ((impl_Diagonal_99.f k l1 (mn a2 a3) (mx a2 a3)).bind fun t275 => (some t275)))
theorem impl_isSide.mono : ∀ a0 a1 a2 a3 k, LeO (impl_isSide.f k a0 a1 a2 a3) (impl_isSide.f (k + 1) a0 a1 a2 a3) := by
 intro a0 a1 a2 a3 k
 unfold impl_isSide.f
 repeat' first
   | (with_reducible exact impl_Diagonal_99.mono _ _ _ _)
   | (with_reducible exact LeO.refl _)
   | (with_reducible exact LeO.none _)
   | (with_reducible refine LeO.ite ?_ ?_)
   | (with_reducible refine LeO.bind ?_ (fun _ => ?_))
   | exact impl_Diagonal_99.mono _ _ _ _
   | exact LeO.none _
   | refine LeO.ite ?_ ?_
   | refine LeO.bind ?_ (fun _ => ?_)
set_option maxHeartbeats 8000000 in
set_option maxRecDepth 100000 in
theorem impl_isSide.calls (k : Nat) (a0 : Int) (A1 : Option Addr) (c1 : Nat) (l1 : List (S49)) (a2 : Int) (a3 : Int) (r : Bool) (w : World) (hr1 : Kd.C k49 w A1 l1.length l1) (hc1 : l1.length ≤ c1) (h : impl_isSide.f k a0 l1 a2 a3 = some r) :
  Calls Tryd.prog 80 #[.int .i64 a0, .slice A1 l1.length c1, .int .i64 a2, .int .i64 a3] w fun e w' => e = .returned (.bool r) ∧ Below w.heap.size w w' := by
 have hu49 := Tryd.underlying49
 have HR1 := Aside0.mk hr1
 have HC1 := Aside0.mk hc1
 clear hr1 hc1
 have HB := Aside0.mk (Below.refl w.heap.size w)
 have H : (if (mx a2 a3) = (wrap64 ((mn a2 a3) + 1)) then (some true) else (if (mn a2 a3) = 0 then (if (mx a2 a3) = (wrap64 (a0 - 1)) then (some true) else ((impl_Diagonal_99.f k l1 (mn a2 a3) (mx a2 a3)).bind fun t274 => (some t274))) else ((impl_Diagonal_99.f k l1 (mn a2 a3) (mx a2 a3)).bind fun t275 => (some t275)))) = some r := h
 clear h
 obtain ⟨ji5, hji5⟩ : ∃ j_ : Int, (mn a2 a3) = j_ := ⟨_, rfl⟩
 replace H : (if (mx a2 a3) = (wrap64 ((ji5) + 1)) then (some true) else (if (ji5) = 0 then (if (mx a2 a3) = (wrap64 (a0 - 1)) then (some true) else ((impl_Diagonal_99.f k l1 (ji5) (mx a2 a3)).bind fun t274 => (some t274))) else ((impl_Diagonal_99.f k l1 (ji5) (mx a2 a3)).bind fun t275 => (some t275)))) = some r := by first | (rw [hji5] at H; exact H) | (simp only [hji5] at H ⊢; exact H)
 have hji5_ : (if a3 < a2 then a3 else a2) = ji5 := hji5
 obtain ⟨ji6, hji6⟩ : ∃ j_ : Int, (mx a2 a3) = j_ := ⟨_, rfl⟩
 replace H : (if (ji6) = (wrap64 ((ji5) + 1)) then (some true) else (if (ji5) = 0 then (if (ji6) = (wrap64 (a0 - 1)) then (some true) else ((impl_Diagonal_99.f k l1 (ji5) (ji6)).bind fun t274 => (some t274))) else ((impl_Diagonal_99.f k l1 (ji5) (ji6)).bind fun t275 => (some t275)))) = some r := by first | (rw [hji6] at H; exact H) | (simp only [hji6] at H ⊢; exact H)
 have hji6_ : (if a2 < a3 then a3 else a2) = ji6 := hji6
 by_cases c7 : (ji6) = (wrap64 ((ji5) + 1))
 ·rw [if_pos c7] at H
  have c7b0 : ((ji6) == (wrap64 ((ji5) + 1))) = true := beq_iff_eq.mpr c7
  have c7b1 : ((ji6) != (wrap64 ((ji5) + 1))) = false := bne_eq_false_iff_eq.mpr c7
  clear c7
  obtain rfl := Option.some.inj H
  go_enter Tryd.func80, Tryd.ntmps80
  go_wp2
  go_ret
  exact ⟨by first | rfl | (simp [errW_none, errW_some] <;> rfl) | (simp only [← hji5, ← hji6]; first | rfl | (simp [errW_none, errW_some] <;> rfl)) | (simp [*, errW_none, errW_some] <;> rfl), blw_⟩
 ·rw [if_neg c7] at H
  have c7b0 : ((ji6) == (wrap64 ((ji5) + 1))) = false := beq_eq_false_iff_ne.mpr c7
  have c7b1 : ((ji6) != (wrap64 ((ji5) + 1))) = true := bne_iff_ne.mpr c7
  by_cases c8 : (ji5) = 0
  ·rw [if_pos c8] at H
   have c8b0 : ((ji5) == 0) = true := beq_iff_eq.mpr c8
   have c8b1 : ((ji5) != 0) = false := bne_eq_false_iff_eq.mpr c8
   clear c8
   by_cases c9 : (ji6) = (wrap64 (a0 - 1))
   ·rw [if_pos c9] at H
    have c9b0 : ((ji6) == (wrap64 (a0 - 1))) = true := beq_iff_eq.mpr c9
    have c9b1 : ((ji6) != (wrap64 (a0 - 1))) = false := bne_eq_false_iff_eq.mpr c9
    clear c9
    obtain rfl := Option.some.inj H
    go_enter Tryd.func80, Tryd.ntmps80
    go_wp2
    go_ret
    exact ⟨by first | rfl | (simp [errW_none, errW_some] <;> rfl) | (simp only [← hji5, ← hji6]; first | rfl | (simp [errW_none, errW_some] <;> rfl)) | (simp [*, errW_none, errW_some] <;> rfl), blw_⟩
   ·rw [if_neg c9] at H
    have c9b0 : ((ji6) == (wrap64 (a0 - 1))) = false := beq_eq_false_iff_ne.mpr c9
    have c9b1 : ((ji6) != (wrap64 (a0 - 1))) = true := bne_iff_ne.mpr c9
    replace H := Option.bind_eq_some_iff.mp H
    obtain ⟨t274, A100, H⟩ := H
    replace H : (some t274) = some r := H
    have A10 := Aside0.mk A100
    clear A100
    obtain rfl := Option.some.inj H
    go_enter Tryd.func80, Tryd.ntmps80
    go_wp2_with (first | (go_at_call 99; (with_reducible refine (impl_Diagonal_99.calls k _ _ l1 ji5 ji6 t274 _ ?side1 ?side2 A10.out).mono ?_); (case side1 => exact cd_ HR1.out); (case side2 => exact HC1.out); rintro e w11 ⟨rfl, hb⟩; replace HB := Aside0.mk (below_step blw_ hb); (try clear hb); (try clear hb2); (try clear hk); (try clear hi)))
    go_ret
    exact ⟨by first | rfl | (simp [errW_none, errW_some] <;> rfl) | (simp only [← hji5, ← hji6]; first | rfl | (simp [errW_none, errW_some] <;> rfl)) | (simp [*, errW_none, errW_some] <;> rfl), blw_⟩
  ·rw [if_neg c8] at H
   have c8b0 : ((ji5) == 0) = false := beq_eq_false_iff_ne.mpr c8
   have c8b1 : ((ji5) != 0) = true := bne_iff_ne.mpr c8
   replace H := Option.bind_eq_some_iff.mp H
   obtain ⟨t275, A120, H⟩ := H
   replace H : (some t275) = some r := H
   have A12 := Aside0.mk A120
   clear A120
   obtain rfl := Option.some.inj H
   go_enter Tryd.func80, Tryd.ntmps80
   go_wp2_with (first | (go_at_call 99; (with_reducible refine (impl_Diagonal_99.calls k _ _ l1 ji5 ji6 t275 _ ?side1 ?side2 A12.out).mono ?_); (case side1 => exact cd_ HR1.out); (case side2 => exact HC1.out); rintro e w13 ⟨rfl, hb⟩; replace HB := Aside0.mk (below_step blw_ hb); (try clear hb); (try clear hb2); (try clear hk); (try clear hi)))
   go_ret
   exact ⟨by first | rfl | (simp [errW_none, errW_some] <;> rfl) | (simp only [← hji5, ← hji6]; first | rfl | (simp [errW_none, errW_some] <;> rfl)) | (simp [*, errW_none, errW_some] <;> rfl), blw_⟩

end Go.Proofs.YtgblginphicacaaDoor.PFnExactFirstFlips
