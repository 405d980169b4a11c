-- WRITTEN BY A PROGRAM OF THIS WORK (wip/tools/ppatch.py) for this claim.
import Derived.Test.YtgblginphicacaaGreatDoorPFnExactCountByFlipsx0
import Derived.Test.YtgblginphicacaaGreatDoorPFnExactCountByFlipsx10
namespace Go.Proofs.YtgblginphicacaaGreatDoor.PFnExactCountByFlips
open Go.RowKit Go.Proofs.YtgblginphicacaaGreatDoorW.PrintWords Go.Proofs.YtgblginphicacaaGreatDoorW.PrintLast Go.Proofs.YtgblginphicacaaGreatDoorW.PrintMore
attribute [local go_sem] max2_int min2_int max_two min_two max_three min_three max_four min_four   -- for this text's walks alone
set_option linter.unusedVariables false
set_option linter.unusedSimpArgs false

/-! ### impl_isDiagonal: function 42 -/
def impl_isDiagonal.f (a0 : Int) (a1_0 : Int) (a1_1 : Int) : Option (Bool) := (impl_within.f a1_0 0 (wrap64 (a0 - 1))).bind fun t263 => (if t263 = true then ((impl_within.f a1_1 0 (wrap64 (a0 - 1))).bind fun t264 => (if t264 = true then (if (wrap64 (a1_1 - a1_0)) > 1 then (if a1_0 = 0 then (some (!(a1_1 == (wrap64 (a0 - 1))))) else (some (!false))) else (some false)) else (some false))) else (some false))
set_option maxHeartbeats 8000000 in
set_option maxRecDepth 100000 in
theorem impl_isDiagonal.calls (a0 : Int) (a1_0 : Int) (a1_1 : Int) (r : Bool) (w : World) (h : impl_isDiagonal.f a0 a1_0 a1_1 = some r) :
  Calls Tryz.prog 42 #[.int .i64 a0, .agg #[.int .i64 a1_0, .int .i64 a1_1]] w fun e w' => e = .returned (.bool r) ∧ Below w.heap.size w w' := by
 have hu38 := Tryz.underlying38
 have HB := Aside0.mk (Below.refl w.heap.size w)
 have H : ((impl_within.f a1_0 0 (wrap64 (a0 - 1))).bind fun t263 => (if t263 = true then ((impl_within.f a1_1 0 (wrap64 (a0 - 1))).bind fun t264 => (if t264 = true then (if (wrap64 (a1_1 - a1_0)) > 1 then (if a1_0 = 0 then (some (!(a1_1 == (wrap64 (a0 - 1))))) else (some (!false))) else (some false)) else (some false))) else (some false))) = some r := h
 clear h
 replace H := Option.bind_eq_some_iff.mp H
 obtain ⟨t263, A30, H⟩ := H
 replace H : (if t263 = true then ((impl_within.f a1_1 0 (wrap64 (a0 - 1))).bind fun t264 => (if t264 = true then (if (wrap64 (a1_1 - a1_0)) > 1 then (if a1_0 = 0 then (some (!(a1_1 == (wrap64 (a0 - 1))))) else (some (!false))) else (some false)) else (some false))) else (some false)) = some r := H
 have A3 := Aside0.mk A30
 clear A30
 by_cases c4 : t263 = true
 ·subst c4
  replace H : ((impl_within.f a1_1 0 (wrap64 (a0 - 1))).bind fun t264 => (if t264 = true then (if (wrap64 (a1_1 - a1_0)) > 1 then (if a1_0 = 0 then (some (!(a1_1 == (wrap64 (a0 - 1))))) else (some (!false))) else (some false)) else (some false))) = some r := by rw [if_pos rfl] at H; exact H
  replace H := Option.bind_eq_some_iff.mp H
  obtain ⟨t264, A50, H⟩ := H
  replace H : (if t264 = true then (if (wrap64 (a1_1 - a1_0)) > 1 then (if a1_0 = 0 then (some (!(a1_1 == (wrap64 (a0 - 1))))) else (some (!false))) else (some false)) else (some false)) = some r := H
  have A5 := Aside0.mk A50
  clear A50
  by_cases c6 : t264 = true
  ·subst c6
   replace H : (if (wrap64 (a1_1 - a1_0)) > 1 then (if a1_0 = 0 then (some (!(a1_1 == (wrap64 (a0 - 1))))) else (some (!false))) else (some false)) = some r := by rw [if_pos rfl] at H; exact H
   by_cases c7 : (wrap64 (a1_1 - a1_0)) > 1
   ·rw [if_pos c7] at H
    have c7b0 : decide (1 < (wrap64 (a1_1 - a1_0))) = true := decide_eq_true c7
    clear c7
    by_cases c8 : a1_0 = 0
    ·rw [if_pos c8] at H
     have c8b0 : (a1_0 == 0) = true := beq_iff_eq.mpr c8
     have c8b1 : (a1_0 != 0) = false := bne_eq_false_iff_eq.mpr c8
     clear c8
     obtain rfl := Option.some.inj H
     go_enter Tryz.func42, Tryz.ntmps42
     go_wp2_with (first | ((with_reducible refine gate_dst (N := 3) rfl ?_); refine bxe_ 3 #[.int .i64 a1_0, .int .i64 a1_1] 38 ?_; intro gb262 hg w9 hbox hb; have BK262 := Aside0.mk (hbox); have GW262 := gz_ w hg; have GE262 := gz_ w hg; replace HB := Aside0.mk (below_step blw_ hb); clear hb hbox hg; have hcz10_0 := blc_ (.int .i64 a1_0) BK262 0; have hcz10_1 := blc_ (.int .i64 a1_1) BK262 1; have hfz10_0 := blk_frozen BK262.out 0; have hfz10_1 := blk_frozen BK262.out 1) | ((with_reducible refine gate_callee (f := 56) rfl ?_); refine goesL_ (some 9) rfl rfl Tryz.func56 (by kernel_rfl) rfl #[.int .i64 a1_0, .int .i64 0, .int .i64 (wrap64 (a0 - 1))] rfl amp_ ?_; (with_reducible refine (impl_within.calls a1_0 0 (wrap64 (a0 - 1)) true _ A3.out).mono ?_); rintro e w' ⟨rfl, ⟨nd, rfl⟩⟩; refine ⟨_, rfl, ?_⟩) | (go_at_call 56; (with_reducible refine (impl_within.calls a1_1 0 (wrap64 (a0 - 1)) true _ A5.out).mono ?_); rintro e w' ⟨rfl, ⟨nd, rfl⟩⟩))
     go_ret
     exact er_
    ·rw [if_neg c8] at H
     have c8b0 : (a1_0 == 0) = false := beq_eq_false_iff_ne.mpr c8
     have c8b1 : (a1_0 != 0) = true := bne_iff_ne.mpr c8
     obtain rfl := Option.some.inj H
     go_enter Tryz.func42, Tryz.ntmps42
     go_wp2_with (first | ((with_reducible refine gate_dst (N := 3) rfl ?_); refine bxe_ 3 #[.int .i64 a1_0, .int .i64 a1_1] 38 ?_; intro gb262 hg w11 hbox hb; have BK262 := Aside0.mk (hbox); have GW262 := gz_ w hg; have GE262 := gz_ w hg; replace HB := Aside0.mk (below_step blw_ hb); clear hb hbox hg; have hcz12_0 := blc_ (.int .i64 a1_0) BK262 0; have hcz12_1 := blc_ (.int .i64 a1_1) BK262 1; have hfz12_0 := blk_frozen BK262.out 0; have hfz12_1 := blk_frozen BK262.out 1) | ((with_reducible refine gate_callee (f := 56) rfl ?_); refine goesL_ (some 9) rfl rfl Tryz.func56 (by kernel_rfl) rfl #[.int .i64 a1_0, .int .i64 0, .int .i64 (wrap64 (a0 - 1))] rfl amp_ ?_; (with_reducible refine (impl_within.calls a1_0 0 (wrap64 (a0 - 1)) true _ A3.out).mono ?_); rintro e w' ⟨rfl, ⟨nd, rfl⟩⟩; refine ⟨_, rfl, ?_⟩) | (go_at_call 56; (with_reducible refine (impl_within.calls a1_1 0 (wrap64 (a0 - 1)) true _ A5.out).mono ?_); rintro e w' ⟨rfl, ⟨nd, rfl⟩⟩))
     go_ret
     exact er_
   ·rw [if_neg c7] at H
    have c7b0 : decide (1 < (wrap64 (a1_1 - a1_0))) = false := decide_eq_false c7
    clear c7
    obtain rfl := Option.some.inj H
    go_enter Tryz.func42, Tryz.ntmps42
    go_wp2_with (first | ((with_reducible refine gate_dst (N := 3) rfl ?_); refine bxe_ 3 #[.int .i64 a1_0, .int .i64 a1_1] 38 ?_; intro gb262 hg w13 hbox hb; have BK262 := Aside0.mk (hbox); have GW262 := gz_ w hg; have GE262 := gz_ w hg; replace HB := Aside0.mk (below_step blw_ hb); clear hb hbox hg; have hcz14_0 := blc_ (.int .i64 a1_0) BK262 0; have hcz14_1 := blc_ (.int .i64 a1_1) BK262 1; have hfz14_0 := blk_frozen BK262.out 0; have hfz14_1 := blk_frozen BK262.out 1) | ((with_reducible refine gate_callee (f := 56) rfl ?_); refine goesL_ (some 9) rfl rfl Tryz.func56 (by kernel_rfl) rfl #[.int .i64 a1_0, .int .i64 0, .int .i64 (wrap64 (a0 - 1))] rfl amp_ ?_; (with_reducible refine (impl_within.calls a1_0 0 (wrap64 (a0 - 1)) true _ A3.out).mono ?_); rintro e w' ⟨rfl, ⟨nd, rfl⟩⟩; refine ⟨_, rfl, ?_⟩) | (go_at_call 56; (with_reducible refine (impl_within.calls a1_1 0 (wrap64 (a0 - 1)) true _ A5.out).mono ?_); rintro e w' ⟨rfl, ⟨nd, rfl⟩⟩))
    go_ret
    exact er_
  ·replace c6 := Bool.eq_false_iff.mpr c6
   subst c6
   replace H : (some false) = some r := by rw [if_neg (show ¬ (false = true) by decide)] at H; exact H
   obtain rfl := Option.some.inj H
   go_enter Tryz.func42, Tryz.ntmps42
   go_wp2_with (first | ((with_reducible refine gate_dst (N := 3) rfl ?_); refine bxe_ 3 #[.int .i64 a1_0, .int .i64 a1_1] 38 ?_; intro gb262 hg w15 hbox hb; have BK262 := Aside0.mk (hbox); have GW262 := gz_ w hg; have GE262 := gz_ w hg; replace HB := Aside0.mk (below_step blw_ hb); clear hb hbox hg; have hcz16_0 := blc_ (.int .i64 a1_0) BK262 0; have hcz16_1 := blc_ (.int .i64 a1_1) BK262 1; have hfz16_0 := blk_frozen BK262.out 0; have hfz16_1 := blk_frozen BK262.out 1) | ((with_reducible refine gate_callee (f := 56) rfl ?_); refine goesL_ (some 9) rfl rfl Tryz.func56 (by kernel_rfl) rfl #[.int .i64 a1_0, .int .i64 0, .int .i64 (wrap64 (a0 - 1))] rfl amp_ ?_; (with_reducible refine (impl_within.calls a1_0 0 (wrap64 (a0 - 1)) true _ A3.out).mono ?_); rintro e w' ⟨rfl, ⟨nd, rfl⟩⟩; refine ⟨_, rfl, ?_⟩) | (go_at_call 56; (with_reducible refine (impl_within.calls a1_1 0 (wrap64 (a0 - 1)) false _ A5.out).mono ?_); rintro e w' ⟨rfl, ⟨nd, rfl⟩⟩))
   go_ret
   exact er_
 ·replace c4 := Bool.eq_false_iff.mpr c4
  subst c4
  replace H : (some false) = some r := by rw [if_neg (show ¬ (false = true) by decide)] at H; exact H
  obtain rfl := Option.some.inj H
  go_enter Tryz.func42, Tryz.ntmps42
  go_wp2_with (first | ((with_reducible refine gate_dst (N := 3) rfl ?_); refine bxe_ 3 #[.int .i64 a1_0, .int .i64 a1_1] 38 ?_; intro gb262 hg w17 hbox hb; have BK262 := Aside0.mk (hbox); have GW262 := gz_ w hg; have GE262 := gz_ w hg; replace HB := Aside0.mk (below_step blw_ hb); clear hb hbox hg; have hcz18_0 := blc_ (.int .i64 a1_0) BK262 0; have hcz18_1 := blc_ (.int .i64 a1_1) BK262 1; have hfz18_0 := blk_frozen BK262.out 0; have hfz18_1 := blk_frozen BK262.out 1) | ((with_reducible refine gate_callee (f := 56) rfl ?_); refine goesL_ (some 9) rfl rfl Tryz.func56 (by kernel_rfl) rfl #[.int .i64 a1_0, .int .i64 0, .int .i64 (wrap64 (a0 - 1))] rfl amp_ ?_; (with_reducible refine (impl_within.calls a1_0 0 (wrap64 (a0 - 1)) false _ A3.out).mono ?_); rintro e w' ⟨rfl, ⟨nd, rfl⟩⟩; refine ⟨_, rfl, ?_⟩))
  go_ret
  exact er_

/-! ### cmp_Or_int: function 57 -/
def cmp_Or_int.l0 : Nat → Int → List Int → Int → Int → Option (Int)
 | 0, _, _, _, _ => none
 | k + 1, x3, x6, x7, x8 => if x8 < x7 then (if 0 ≤ x8 then (if x8 < (x6.length : Int) then (if (rd x6 x8) = x3 then (cmp_Or_int.l0 k x3 x6 x7 (wrap64 (x8 + 1))) else (some (rd x6 x8))) else (none)) else (none)) else (some x3)
def cmp_Or_int.f (k : Nat) (l0 : List Int) : Option (Int) := cmp_Or_int.l0 k 0 l0 (l0.length : Int) 0
theorem cmp_Or_int.mono_l : ∀ k, (∀ y0 y1 y2 y3, LeO (cmp_Or_int.l0 k y0 y1 y2 y3) (cmp_Or_int.l0 (k + 1) y0 y1 y2 y3))
 | 0 => fun _ _ _ _ r h => by simp [cmp_Or_int.l0] at h
 | k + 1 => by
  have ih0 := cmp_Or_int.mono_l k
  ·intro y0 y1 y2 y3
   unfold cmp_Or_int.l0
   repeat' first
   | (with_reducible exact ih0 _ _ _ _)
   | (with_reducible exact LeO.refl _)
   | (with_reducible exact LeO.none _)
   | (with_reducible refine LeO.ite ?_ ?_)
   | (with_reducible refine LeO.bind ?_ (fun _ => ?_))
   | exact ih0 _ _ _ _
   | exact LeO.none _
   | refine LeO.ite ?_ ?_
   | refine LeO.bind ?_ (fun _ => ?_)
theorem cmp_Or_int.mono : ∀ a0 k, LeO (cmp_Or_int.f k a0) (cmp_Or_int.f (k + 1) a0) := by
 intro a0 k
 have ih0 := cmp_Or_int.mono_l k
 unfold cmp_Or_int.f
 repeat' first
   | (with_reducible exact ih0 _ _ _ _)
   | (with_reducible exact LeO.refl _)
   | (with_reducible exact LeO.none _)
   | (with_reducible refine LeO.ite ?_ ?_)
   | (with_reducible refine LeO.bind ?_ (fun _ => ?_))
   | exact ih0 _ _ _ _
   | exact LeO.none _
   | refine LeO.ite ?_ ?_
   | refine LeO.bind ?_ (fun _ => ?_)
set_option maxHeartbeats 8000000 in
set_option maxRecDepth 100000 in
theorem cmp_Or_int.calls (k : Nat) (A0 : Option Addr) (c0 : Nat) (l0 : List Int) (r : Int) (w : World) (hr0 : Kd.C (Kd.int .i64) w A0 l0.length l0) (hc0 : l0.length ≤ c0) (h : cmp_Or_int.f k l0 = some r) :
  Calls Tryz.prog 57 #[.slice A0 l0.length c0] w fun e w' => e = .returned (.int .i64 r) ∧ Drawn0 w w' := by
 have HR0 := Aside0.mk hr0
 have HC0 := Aside0.mk hc0
 clear hr0 hc0
 have H : (cmp_Or_int.l0 k 0 l0 (l0.length : Int) 0) = some r := h
 clear h
 have H' := Aside0.mk H
 clear H
 go_enter Tryz.func57, Tryz.ntmps57
 go_wp2
 go_loopg [8] k (fun kq v8 w' => ∃ (x8_1 : Int), v8 = .int .i64 x8_1 ∧ Aside0 (cmp_Or_int.l0 kq 0 l0 (l0.length : Int) x8_1 = some r) ∧ Aside0 (kq ≤ k) ∧ Drawn0 w w')
 case atStart => exact ⟨(0), rsd_, H', ⟨Nat.le_refl _⟩, by repeat (first | exact Drawn0.refl _ | apply Drawn0.step)⟩
 case round =>
  clear H'
  obtain ⟨x8_1, rfl, HA, HK1, ⟨m1, rfl⟩⟩ := hrel
  cases gk with
  | zero => exact absurd HA.out (by simp [cmp_Or_int.l0])
  | succ k1 =>
   have H := HA.out
   clear HA
   simp only [cmp_Or_int.l0] at H
   by_cases c2 : x8_1 < (l0.length : Int)
   ·rw [if_pos c2] at H
    have c2b0 : decide (x8_1 < (l0.length : Int)) = true := decide_eq_true c2
    clear c2
    by_cases c3 : 0 ≤ x8_1
    case neg=>rw [if_neg c3] at H;exact absurd H (by simp)
    rw [if_pos c3] at H
    have c3b0 : decide (0 ≤ x8_1) = true := decide_eq_true c3
    clear c3
    by_cases c4 : x8_1 < (l0.length : Int)
    case neg=>rw [if_neg c4] at H;exact absurd H (by simp)
    rw [if_pos c4] at H
    have c4b0 : decide (x8_1 < (l0.length : Int)) = true := decide_eq_true c4
    clear c4
    by_cases c5 : (rd l0 x8_1) = 0
    ·rw [if_pos c5] at H
     have c5b0 : ((rd l0 x8_1) == 0) = true := beq_iff_eq.mpr c5
     have c5b1 : ((rd l0 x8_1) != 0) = false := bne_eq_false_iff_eq.mpr c5
     clear c5
     have H' := Aside0.mk H
     clear H
     have p265 : 0 ≤ (x8_1 : Int) := odt_
     have q265 : x8_1 < (l0.length : Int) := odt_
     obtain ⟨ad265, e265, hx265_0⟩ := Kd.at_int HR0.out x8_1 p265 q265
     cases e265
     replace p265 := eq_true p265
     replace q265 := eq_true q265
     go_wp2
     go_roundg k1
     case measure => have := HK1.out; omega
     case rel => exact ⟨(wrap64 (x8_1 + 1)), rsd_, H', ⟨by have := HK1.out; omega⟩, by repeat (first | exact Drawn0.refl _ | apply Drawn0.step)⟩
    ·rw [if_neg c5] at H
     have c5b0 : ((rd l0 x8_1) == 0) = false := beq_eq_false_iff_ne.mpr c5
     have c5b1 : ((rd l0 x8_1) != 0) = true := bne_iff_ne.mpr c5
     obtain rfl := Option.some.inj H
     have p265 : 0 ≤ (x8_1 : Int) := odt_
     have q265 : x8_1 < (l0.length : Int) := odt_
     obtain ⟨ad265, e265, hx265_0⟩ := Kd.at_int HR0.out x8_1 p265 q265
     cases e265
     replace p265 := eq_true p265
     replace q265 := eq_true q265
     go_wp2
     go_ret
     exact dr_
   ·rw [if_neg c2] at H
    have c2b0 : decide (x8_1 < (l0.length : Int)) = false := decide_eq_false c2
    clear c2
    obtain rfl := Option.some.inj H
    go_wp2
    go_ret
    exact dr_

/-! ### cmp_isNaN_int: function 68 -/
def cmp_isNaN_int.f (a0 : Int) : Option (Bool) := some (a0 != a0)
set_option maxHeartbeats 8000000 in
set_option maxRecDepth 100000 in
theorem cmp_isNaN_int.calls (a0 : Int) (r : Bool) (w : World) (h : cmp_isNaN_int.f a0 = some r) :
  Calls Tryz.prog 68 #[.int .i64 a0] w fun e w' => e = .returned (.bool r) ∧ Drawn0 w w' := by
 have H : (some (a0 != a0)) = some r := h
 clear h
 obtain rfl := Option.some.inj H
 go_enter Tryz.func68, Tryz.ntmps68
 go_wp2
 go_ret
 exact dr_

/-! ### cmp_Compare_int: function 58 -/
def cmp_Compare_int.f (a0 : Int) (a1 : Int) : Option (Int) := (cmp_isNaN_int.f a0).bind fun t266 => ((cmp_isNaN_int.f a1).bind fun t267 => (if t266 = true then (if t267 = true then (some 0) else (some (-1))) else (if t267 = true then (some 1) else (if a0 < a1 then (some (-1)) else (if a0 > a1 then (some 1) else (some 0))))))
set_option maxHeartbeats 8000000 in
set_option maxRecDepth 100000 in
theorem cmp_Compare_int.calls (a0 : Int) (a1 : Int) (r : Int) (w : World) (h : cmp_Compare_int.f a0 a1 = some r) :
  Calls Tryz.prog 58 #[.int .i64 a0, .int .i64 a1] w fun e w' => e = .returned (.int .i64 r) ∧ Drawn0 w w' := by
 have H : ((cmp_isNaN_int.f a0).bind fun t266 => ((cmp_isNaN_int.f a1).bind fun t267 => (if t266 = true then (if t267 = true then (some 0) else (some (-1))) else (if t267 = true then (some 1) else (if a0 < a1 then (some (-1)) else (if a0 > a1 then (some 1) else (some 0))))))) = some r := h
 clear h
 replace H := Option.bind_eq_some_iff.mp H
 obtain ⟨t266, A30, H⟩ := H
 replace H : ((cmp_isNaN_int.f a1).bind fun t267 => (if t266 = true then (if t267 = true then (some 0) else (some (-1))) else (if t267 = true then (some 1) else (if a0 < a1 then (some (-1)) else (if a0 > a1 then (some 1) else (some 0)))))) = some r := H
 have A3 := Aside0.mk A30
 clear A30
 replace H := Option.bind_eq_some_iff.mp H
 obtain ⟨t267, A40, H⟩ := H
 replace H : (if t266 = true then (if t267 = true then (some 0) else (some (-1))) else (if t267 = true then (some 1) else (if a0 < a1 then (some (-1)) else (if a0 > a1 then (some 1) else (some 0))))) = some r := H
 have A4 := Aside0.mk A40
 clear A40
 by_cases c5 : t266 = true
 ·subst c5
  replace H : (if t267 = true then (some 0) else (some (-1))) = some r := by rw [if_pos rfl] at H; exact H
  by_cases c6 : t267 = true
  ·subst c6
   replace H : (some 0) = some r := by rw [if_pos rfl] at H; exact H
   obtain rfl := Option.some.inj H
   go_enter Tryz.func58, Tryz.ntmps58
   go_wp2_with (first | ((with_reducible refine gate_callee (f := 68) rfl ?_); refine goesL_ (some 8) rfl rfl Tryz.func68 (by kernel_rfl) rfl #[.int .i64 a0] rfl amp_ ?_; (with_reducible refine (cmp_isNaN_int.calls a0 true _ A3.out).mono ?_); rintro e w' ⟨rfl, ⟨nd, rfl⟩⟩; refine ⟨_, rfl, ?_⟩) | ((with_reducible refine gate_callee (f := 68) rfl ?_); refine goesL_ (some 10) rfl rfl Tryz.func68 (by kernel_rfl) rfl #[.int .i64 a1] rfl amp_ ?_; (with_reducible refine (cmp_isNaN_int.calls a1 true _ A4.out).mono ?_); rintro e w' ⟨rfl, ⟨nd, rfl⟩⟩; refine ⟨_, rfl, ?_⟩))
   go_ret
   exact dr_
  ·replace c6 := Bool.eq_false_iff.mpr c6
   subst c6
   replace H : (some (-1)) = some r := by rw [if_neg (show ¬ (false = true) by decide)] at H; exact H
   obtain rfl := Option.some.inj H
   go_enter Tryz.func58, Tryz.ntmps58
   go_wp2_with (first | ((with_reducible refine gate_callee (f := 68) rfl ?_); refine goesL_ (some 8) rfl rfl Tryz.func68 (by kernel_rfl) rfl #[.int .i64 a0] rfl amp_ ?_; (with_reducible refine (cmp_isNaN_int.calls a0 true _ A3.out).mono ?_); rintro e w' ⟨rfl, ⟨nd, rfl⟩⟩; refine ⟨_, rfl, ?_⟩) | ((with_reducible refine gate_callee (f := 68) rfl ?_); refine goesL_ (some 10) rfl rfl Tryz.func68 (by kernel_rfl) rfl #[.int .i64 a1] rfl amp_ ?_; (with_reducible refine (cmp_isNaN_int.calls a1 false _ A4.out).mono ?_); rintro e w' ⟨rfl, ⟨nd, rfl⟩⟩; refine ⟨_, rfl, ?_⟩))
   go_ret
   exact dr_
 ·replace c5 := Bool.eq_false_iff.mpr c5
  subst c5
  replace H : (if t267 = true then (some 1) else (if a0 < a1 then (some (-1)) else (if a0 > a1 then (some 1) else (some 0)))) = some r := by rw [if_neg (show ¬ (false = true) by decide)] at H; exact H
  by_cases c7 : t267 = true
  ·subst c7
   replace H : (some 1) = some r := by rw [if_pos rfl] at H; exact H
   obtain rfl := Option.some.inj H
   go_enter Tryz.func58, Tryz.ntmps58
   go_wp2_with (first | ((with_reducible refine gate_callee (f := 68) rfl ?_); refine goesL_ (some 8) rfl rfl Tryz.func68 (by kernel_rfl) rfl #[.int .i64 a0] rfl amp_ ?_; (with_reducible refine (cmp_isNaN_int.calls a0 false _ A3.out).mono ?_); rintro e w' ⟨rfl, ⟨nd, rfl⟩⟩; refine ⟨_, rfl, ?_⟩) | ((with_reducible refine gate_callee (f := 68) rfl ?_); refine goesL_ (some 10) rfl rfl Tryz.func68 (by kernel_rfl) rfl #[.int .i64 a1] rfl amp_ ?_; (with_reducible refine (cmp_isNaN_int.calls a1 true _ A4.out).mono ?_); rintro e w' ⟨rfl, ⟨nd, rfl⟩⟩; refine ⟨_, rfl, ?_⟩))
   go_ret
   exact dr_
  ·replace c7 := Bool.eq_false_iff.mpr c7
   subst c7
   replace H : (if a0 < a1 then (some (-1)) else (if a0 > a1 then (some 1) else (some 0))) = some r := by rw [if_neg (show ¬ (false = true) by decide)] at H; exact H
   by_cases c8 : a0 < a1
   ·rw [if_pos c8] at H
    have c8b0 : decide (a0 < a1) = true := decide_eq_true c8
    clear c8
    obtain rfl := Option.some.inj H
    go_enter Tryz.func58, Tryz.ntmps58
    go_wp2_with (first | ((with_reducible refine gate_callee (f := 68) rfl ?_); refine goesL_ (some 8) rfl rfl Tryz.func68 (by kernel_rfl) rfl #[.int .i64 a0] rfl amp_ ?_; (with_reducible refine (cmp_isNaN_int.calls a0 false _ A3.out).mono ?_); rintro e w' ⟨rfl, ⟨nd, rfl⟩⟩; refine ⟨_, rfl, ?_⟩) | ((with_reducible refine gate_callee (f := 68) rfl ?_); refine goesL_ (some 10) rfl rfl Tryz.func68 (by kernel_rfl) rfl #[.int .i64 a1] rfl amp_ ?_; (with_reducible refine (cmp_isNaN_int.calls a1 false _ A4.out).mono ?_); rintro e w' ⟨rfl, ⟨nd, rfl⟩⟩; refine ⟨_, rfl, ?_⟩))
    go_ret
    exact dr_
   ·rw [if_neg c8] at H
    have c8b0 : decide (a0 < a1) = false := decide_eq_false c8
    clear c8
    by_cases c9 : a0 > a1
    ·rw [if_pos c9] at H
     have c9b0 : decide (a1 < a0) = true := decide_eq_true c9
     clear c9
     obtain rfl := Option.some.inj H
     go_enter Tryz.func58, Tryz.ntmps58
     go_wp2_with (first | ((with_reducible refine gate_callee (f := 68) rfl ?_); refine goesL_ (some 8) rfl rfl Tryz.func68 (by kernel_rfl) rfl #[.int .i64 a0] rfl amp_ ?_; (with_reducible refine (cmp_isNaN_int.calls a0 false _ A3.out).mono ?_); rintro e w' ⟨rfl, ⟨nd, rfl⟩⟩; refine ⟨_, rfl, ?_⟩) | ((with_reducible refine gate_callee (f := 68) rfl ?_); refine goesL_ (some 10) rfl rfl Tryz.func68 (by kernel_rfl) rfl #[.int .i64 a1] rfl amp_ ?_; (with_reducible refine (cmp_isNaN_int.calls a1 false _ A4.out).mono ?_); rintro e w' ⟨rfl, ⟨nd, rfl⟩⟩; refine ⟨_, rfl, ?_⟩))
     go_ret
     exact dr_
    ·rw [if_neg c9] at H
     have c9b0 : decide (a1 < a0) = false := decide_eq_false c9
     clear c9
     obtain rfl := Option.some.inj H
     go_enter Tryz.func58, Tryz.ntmps58
     go_wp2_with (first | ((with_reducible refine gate_callee (f := 68) rfl ?_); refine goesL_ (some 8) rfl rfl Tryz.func68 (by kernel_rfl) rfl #[.int .i64 a0] rfl amp_ ?_; (with_reducible refine (cmp_isNaN_int.calls a0 false _ A3.out).mono ?_); rintro e w' ⟨rfl, ⟨nd, rfl⟩⟩; refine ⟨_, rfl, ?_⟩) | ((with_reducible refine gate_callee (f := 68) rfl ?_); refine goesL_ (some 10) rfl rfl Tryz.func68 (by kernel_rfl) rfl #[.int .i64 a1] rfl amp_ ?_; (with_reducible refine (cmp_isNaN_int.calls a1 false _ A4.out).mono ?_); rintro e w' ⟨rfl, ⟨nd, rfl⟩⟩; refine ⟨_, rfl, ?_⟩))
     go_ret
     exact dr_

/-! ### impl_compareDiagonals: function 43 -/
def impl_compareDiagonals.f (k : Nat) (a0_0 : Int) (a0_1 : Int) (a1_0 : Int) (a1_1 : Int) : Option (Int) := (cmp_Compare_int.f a0_0 a1_0).bind fun t270 => ((cmp_Compare_int.f a0_1 a1_1).bind fun t271 => ((cmp_Or_int.f k (([t270, t271] : List Int))).bind fun t275 => (some t275)))
theorem impl_compareDiagonals.mono : ∀ a0 a1 a2 a3 k, LeO (impl_compareDiagonals.f k a0 a1 a2 a3) (impl_compareDiagonals.f (k + 1) a0 a1 a2 a3) := by
 intro a0 a1 a2 a3 k
 unfold impl_compareDiagonals.f
 repeat' first
   | (with_reducible exact cmp_Or_int.mono _ _)
   | (with_reducible exact LeO.refl _)
   | (with_reducible exact LeO.none _)
   | (with_reducible refine LeO.ite ?_ ?_)
   | (with_reducible refine LeO.bind ?_ (fun _ => ?_))
   | exact cmp_Or_int.mono _ _
   | exact LeO.none _
   | refine LeO.ite ?_ ?_
   | refine LeO.bind ?_ (fun _ => ?_)
def impl_compareDiagonals.T1 : Bool × List (List Nat × List Nat) := (true, [([], []), ([0], [0]), ([], []), ([2], [2]), ([1, 3], [1, 3]), ([], []), ([5], [5]), ([], []), ([7], [7]), ([6, 8, 4], [6, 8]), ([4, 9], [4, 9]), ([10, 9], [10]), ([11, 11, 0, 1, 2, 3, 4, 5, 6, 7, 8, 9, 10, 11], [11])])
def impl_compareDiagonals.B1 : List Nat := [0, 1, 0, 4, 15, 0, 32, 0, 128, 511, 1023, 2047, 4095]
theorem impl_compareDiagonals.tab1 : rtab .any (opsOf Tryz.f43 1) = impl_compareDiagonals.T1 := by kernel_rfl
theorem impl_compareDiagonals.bits1 : waitsOk impl_compareDiagonals.T1.2 impl_compareDiagonals.B1 = true := by kernel_rfl
set_option maxHeartbeats 8000000 in
set_option maxRecDepth 100000 in
theorem impl_compareDiagonals.calls (k : Nat) (a0_0 : Int) (a0_1 : Int) (a1_0 : Int) (a1_1 : Int) (r : Int) (w : World) (h : impl_compareDiagonals.f k a0_0 a0_1 a1_0 a1_1 = some r) :
  Calls Tryz.prog 43 #[.agg #[.int .i64 a0_0, .int .i64 a0_1], .agg #[.int .i64 a1_0, .int .i64 a1_1]] w fun e w' => e = .returned (.int .i64 r) ∧ Below w.heap.size w w' := by
 have hu38 := Tryz.underlying38
 have HB := Aside0.mk (Below.refl w.heap.size w)
 have H : ((cmp_Compare_int.f a0_0 a1_0).bind fun t270 => ((cmp_Compare_int.f a0_1 a1_1).bind fun t271 => ((cmp_Or_int.f k (([t270, t271] : List Int))).bind fun t275 => (some t275)))) = some r := h
 clear h
 replace H := Option.bind_eq_some_iff.mp H
 obtain ⟨t270, A30, H⟩ := H
 replace H : ((cmp_Compare_int.f a0_1 a1_1).bind fun t271 => ((cmp_Or_int.f k (([t270, t271] : List Int))).bind fun t275 => (some t275))) = some r := H
 have A3 := Aside0.mk A30
 clear A30
 replace H := Option.bind_eq_some_iff.mp H
 obtain ⟨t271, A40, H⟩ := H
 replace H : ((cmp_Or_int.f k (([t270, t271] : List Int))).bind fun t275 => (some t275)) = some r := H
 have A4 := Aside0.mk A40
 clear A40
 obtain ⟨y272, hy272⟩ : ∃ y_ : List Int, y_ = (([t270, t271] : List Int)) := ⟨_, rfl⟩
 replace H : ((cmp_Or_int.f k y272).bind fun t275 => (some t275)) = some r := hyy_ hy272 H
 have Ny272 := Aside0.mk hy272
 clear hy272
 replace H := Option.bind_eq_some_iff.mp H
 obtain ⟨t275, A50, H⟩ := H
 replace H : (some t275) = some r := H
 have A5 := Aside0.mk A50
 clear A50
 obtain rfl := Option.some.inj H
 go_enter Tryz.func43, Tryz.ntmps43
 try go_wp2_with (first | ((with_reducible refine gate_dst (N := 2) rfl ?_); refine bxe_ 2 #[.int .i64 a0_0, .int .i64 a0_1] 38 ?_; intro gb268 hg w6 hbox hb; have BK268 := Aside0.mk (hbox); have GW268 := gz_ w hg; have GE268 := gz_ w hg; replace HB := Aside0.mk (below_step blw_ hb); clear hb hbox hg) | ((with_reducible refine gate_dst (N := 3) rfl ?_); refine bxe_ 3 #[.int .i64 a1_0, .int .i64 a1_1] 38 ?_; intro gb269 hg w7 hbox hb; have BK269 := Aside0.mk (hbox); have GW269 := gz_ w hg; have GE269 := gz_ w hg; have NB268_269 := nb_ BK268 hg; have NB269_268 := nbr_ BK268 hg; replace BK268 := bb_ BK268 hb; replace HB := Aside0.mk (below_step bls_ hb); clear hb hbox hg))
 replace BK268 := Aside0.mk (blk_drew BK268.out)
 replace BK269 := Aside0.mk (blk_drew BK269.out)
 replace HB := Aside0.mk (below_drew1 HB.out)
 refine start_ (n := 13) (S := fun w' => w'.cell? ⟨gb268, 0, none⟩ = some (.int .i64 a0_0) ∧ w'.cell? ⟨gb268, 1, none⟩ = some (.int .i64 a0_1) ∧ w'.cell? ⟨gb269, 0, none⟩ = some (.int .i64 a1_0) ∧ w'.cell? ⟨gb269, 1, none⟩ = some (.int .i64 a1_1)) (ds := []) #[false, false, false, false, false, false, false, false, false, false, false, false, false] (by kernel_rfl) rfl rfl ⟨(blk_cell BK268.out 0).trans rfl, (blk_cell BK268.out 1).trans rfl, (blk_cell BK269.out 0).trans rfl, (blk_cell BK269.out 1).trans rfl⟩ (fun hHeld => ?_); refine with_tabW impl_compareDiagonals.tab1 impl_compareDiagonals.bits1 (fun HT_ HW_ => ?_)
 generalize w7.drew = w8 at BK268 BK269 HB hHeld ⊢
 refine pux_ 0 5 HT_ ?_
 refine pux_ 2 7 HT_ ?_
 refine pux_ 5 10 HT_ ?_
 refine pux_ 7 12 HT_ ?_
 refine tak_ 1 6 HT_ HW_ hHeld ?_
 refine tak_ 3 8 HT_ HW_ hHeld ?_
 refine tak_ 6 11 HT_ HW_ hHeld ?_
 refine tak_ 8 13 HT_ HW_ hHeld ?_
 refine oner_ 4 9 HT_ (fun K hK => ?_)
 refine goes_ Tryz.func58 (by kernel_rfl) rfl #[.int .i64 a0_0, .int .i64 a1_0] (by rfl) rfl rfl amp_ ?_
 with_reducible refine (cmp_Compare_int.calls a0_0 a1_0 t270 _ A3.out).mono ?_
 rintro e w' ⟨rfl, ⟨nd, rfl⟩⟩
 refine ⟨_, rfl, ?_⟩
 refine hK.out _ _ ⟨(blk_cell BK268.out 0).trans rfl, (blk_cell BK268.out 1).trans rfl, (blk_cell BK269.out 0).trans rfl, (blk_cell BK269.out 1).trans rfl⟩ (fun hHeld => ?_)
 clear hK K
 refine nor_ 9 ?_
 refine oner_ 9 14 HT_ (fun K hK => ?_)
 refine goes_ Tryz.func58 (by kernel_rfl) rfl #[.int .i64 a0_1, .int .i64 a1_1] (by rfl) rfl rfl amp_ ?_
 with_reducible refine (cmp_Compare_int.calls a0_1 a1_1 t271 _ A4.out).mono ?_
 rintro e w' ⟨rfl, ⟨nd, rfl⟩⟩
 refine ⟨_, rfl, ?_⟩
 refine hK.out _ _ ⟨(blk_cell BK268.out 0).trans rfl, (blk_cell BK268.out 1).trans rfl, (blk_cell BK269.out 0).trans rfl, (blk_cell BK269.out 1).trans rfl⟩ (fun hHeld => ?_)
 clear hK K
 refine nor_ 14 ?_
 refine oner_ 10 15 HT_ (fun K hK => ?_)
 refine Kd.R_lit_step (Kd.int .i64) _ 3 ?hg (N := 15) ?hd (xs := ([t270, t271] : List Int)) (inner := [.int .i64 t270, .int .i64 t271]) (ok := fun _ => True) (okp := fun _ => True) ?hr ?hp (fun _ hk => hk) trivial (Below.refl _ _) (Nat.le_refl _) (by simp) ?_; (case hd => rfl); (case hg => rfl); (case hr => first | (go_simp; done) | (go_simp; rfl)); (case hp => exact (Reps.one (show Kd.M (Kd.int .i64) _ _ _ t270 [.int .i64 t270] from rfl) (Reps.one (show Kd.M (Kd.int .i64) _ _ _ t271 [.int .i64 t271] from rfl) (Reps.none _ _))))
 intro v273 w9 ho10 hb hg_ hnew_
 clear hg_ hnew_
 (first | rw [← Ny272.out] at ho10 | (simp only [Int.reduceToNat] at ho10; rw [← Ny272.out] at ho10))
 have HO274 := Aside0.mk (Kd.R_lower ho10 (below_size bls_))
 replace BK268 := bb_ BK268 hb
 replace BK269 := bb_ BK269 hb
 replace HB := Aside0.mk (below_step bls_ hb)
 clear hb ho10
 obtain ⟨Ao11, co11, eo11⟩ := Kd.R_slice HO274.out
 (first | subst eo11 | (injection eo11 with f1_ f2_ f3_; have f4_ := f1_.symm; have f5_ := f3_.symm; clear f1_ f2_ f3_; subst f4_; subst f5_))
 refine hK.out _ _ ⟨(blk_cell BK268.out 0).trans rfl, (blk_cell BK268.out 1).trans rfl, (blk_cell BK269.out 0).trans rfl, (blk_cell BK269.out 1).trans rfl⟩ (fun hHeld => ?_)
 clear hK K
 refine nor_ 15 ?_
 refine oner_ 11 16 HT_ (fun K hK => ?_)
 refine goes_ Tryz.func57 (by kernel_rfl) rfl #[.slice Ao11 y272.length co11] (by rfl) rfl rfl amp_ ?_
 with_reducible refine (cmp_Or_int.calls k _ _ y272 t275 _ ?side1 ?side2 A5.out).mono ?_
 (case side1 => exact cd_ (Kd.R_reads' HO274.out).2.2)
 (case side2 => exact (Kd.R_reads' HO274.out).2.1)
 rintro e w' ⟨rfl, ⟨nd, rfl⟩⟩
 refine ⟨_, rfl, ?_⟩
 refine hK.out _ _ ⟨(blk_cell BK268.out 0).trans rfl, (blk_cell BK268.out 1).trans rfl, (blk_cell BK269.out 0).trans rfl, (blk_cell BK269.out 1).trans rfl⟩ (fun hHeld => ?_)
 clear hK K
 refine nor_ 16 ?_
 refine pux_ 12 4 HT_ ?_
 refine done_ (done_of HT_.out (by kernel_rfl)) ?_
 try go_wp2
 go_ret
 exact er_

/-! ### impl_doCross: function 31 -/
def impl_doCross.f (a0_0 : Int) (a0_1 : Int) (a1_0 : Int) (a1_1 : Int) : Option (Bool) := if a0_0 < a1_0 then (if a1_0 < a0_1 then (if a0_1 < a1_1 then (some true) else (if a1_0 < a0_0 then (if a0_0 < a1_1 then (some (decide (a1_1 < a0_1))) else (some false)) else (some false))) else (if a1_0 < a0_0 then (if a0_0 < a1_1 then (some (decide (a1_1 < a0_1))) else (some false)) else (some false))) else (if a1_0 < a0_0 then (if a0_0 < a1_1 then (some (decide (a1_1 < a0_1))) else (some false)) else (some false))
set_option maxHeartbeats 8000000 in
set_option maxRecDepth 100000 in
theorem impl_doCross.calls (a0_0 : Int) (a0_1 : Int) (a1_0 : Int) (a1_1 : Int) (r : Bool) (w : World) (h : impl_doCross.f a0_0 a0_1 a1_0 a1_1 = some r) :
  Calls Tryz.prog 31 #[.agg #[.int .i64 a0_0, .int .i64 a0_1], .agg #[.int .i64 a1_0, .int .i64 a1_1]] w fun e w' => e = .returned (.bool r) ∧ Below w.heap.size w w' := by
 have hu38 := Tryz.underlying38
 have HB := Aside0.mk (Below.refl w.heap.size w)
 have H : (if a0_0 < a1_0 then (if a1_0 < a0_1 then (if a0_1 < a1_1 then (some true) else (if a1_0 < a0_0 then (if a0_0 < a1_1 then (some (decide (a1_1 < a0_1))) else (some false)) else (some false))) else (if a1_0 < a0_0 then (if a0_0 < a1_1 then (some (decide (a1_1 < a0_1))) else (some false)) else (some false))) else (if a1_0 < a0_0 then (if a0_0 < a1_1 then (some (decide (a1_1 < a0_1))) else (some false)) else (some false))) = some r := h
 clear h
 by_cases c3 : a0_0 < a1_0
 ·rw [if_pos c3] at H
  have c3b0 : decide (a0_0 < a1_0) = true := decide_eq_true c3
  clear c3
  by_cases c4 : a1_0 < a0_1
  ·rw [if_pos c4] at H
   have c4b0 : decide (a1_0 < a0_1) = true := decide_eq_true c4
   clear c4
   by_cases c5 : a0_1 < a1_1
   ·rw [if_pos c5] at H
    have c5b0 : decide (a0_1 < a1_1) = true := decide_eq_true c5
    clear c5
    obtain rfl := Option.some.inj H
    go_enter Tryz.func31, Tryz.ntmps31
    go_wp2_with (first | ((with_reducible refine gate_dst (N := 2) rfl ?_); refine bxe_ 2 #[.int .i64 a0_0, .int .i64 a0_1] 38 ?_; intro gb276 hg w6 hbox hb; have BK276 := Aside0.mk (hbox); have GW276 := gz_ w hg; have GE276 := gz_ w hg; replace HB := Aside0.mk (below_step blw_ hb); clear hb hbox hg) | ((with_reducible refine gate_dst (N := 3) rfl ?_); refine bxe_ 3 #[.int .i64 a1_0, .int .i64 a1_1] 38 ?_; intro gb277 hg w7 hbox hb; have BK277 := Aside0.mk (hbox); have GW277 := gz_ w hg; have GE277 := gz_ w hg; have NB276_277 := nb_ BK276 hg; have NB277_276 := nbr_ BK276 hg; replace BK276 := bb_ BK276 hb; replace HB := Aside0.mk (below_step bls_ hb); clear hb hbox hg; have hnb8 := NB276_277.out; have hnc8 := NB277_276.out; have hcz9_0 := blc_ (.int .i64 a0_0) BK276 0; have hcz9_1 := blc_ (.int .i64 a0_1) BK276 1; have hfz9_0 := blk_frozen BK276.out 0; have hfz9_1 := blk_frozen BK276.out 1; have hcz10_0 := blc_ (.int .i64 a1_0) BK277 0; have hcz10_1 := blc_ (.int .i64 a1_1) BK277 1; have hfz10_0 := blk_frozen BK277.out 0; have hfz10_1 := blk_frozen BK277.out 1))
    go_ret
    exact er_
   ·rw [if_neg c5] at H
    have c5b0 : decide (a0_1 < a1_1) = false := decide_eq_false c5
    clear c5
    by_cases c11 : a1_0 < a0_0
    ·rw [if_pos c11] at H
     have c11b0 : decide (a1_0 < a0_0) = true := decide_eq_true c11
     clear c11
     by_cases c12 : a0_0 < a1_1
     ·rw [if_pos c12] at H
      have c12b0 : decide (a0_0 < a1_1) = true := decide_eq_true c12
      clear c12
      obtain rfl := Option.some.inj H
      go_enter Tryz.func31, Tryz.ntmps31
      go_wp2_with (first | ((with_reducible refine gate_dst (N := 2) rfl ?_); refine bxe_ 2 #[.int .i64 a0_0, .int .i64 a0_1] 38 ?_; intro gb276 hg w13 hbox hb; have BK276 := Aside0.mk (hbox); have GW276 := gz_ w hg; have GE276 := gz_ w hg; replace HB := Aside0.mk (below_step blw_ hb); clear hb hbox hg) | ((with_reducible refine gate_dst (N := 3) rfl ?_); refine bxe_ 3 #[.int .i64 a1_0, .int .i64 a1_1] 38 ?_; intro gb277 hg w14 hbox hb; have BK277 := Aside0.mk (hbox); have GW277 := gz_ w hg; have GE277 := gz_ w hg; have NB276_277 := nb_ BK276 hg; have NB277_276 := nbr_ BK276 hg; replace BK276 := bb_ BK276 hb; replace HB := Aside0.mk (below_step bls_ hb); clear hb hbox hg; have hnb15 := NB276_277.out; have hnc15 := NB277_276.out; have hcz16_0 := blc_ (.int .i64 a0_0) BK276 0; have hcz16_1 := blc_ (.int .i64 a0_1) BK276 1; have hfz16_0 := blk_frozen BK276.out 0; have hfz16_1 := blk_frozen BK276.out 1; have hcz17_0 := blc_ (.int .i64 a1_0) BK277 0; have hcz17_1 := blc_ (.int .i64 a1_1) BK277 1; have hfz17_0 := blk_frozen BK277.out 0; have hfz17_1 := blk_frozen BK277.out 1))
      go_ret
      exact er_
     ·rw [if_neg c12] at H
      have c12b0 : decide (a0_0 < a1_1) = false := decide_eq_false c12
      clear c12
      obtain rfl := Option.some.inj H
      go_enter Tryz.func31, Tryz.ntmps31
      go_wp2_with (first | ((with_reducible refine gate_dst (N := 2) rfl ?_); refine bxe_ 2 #[.int .i64 a0_0, .int .i64 a0_1] 38 ?_; intro gb276 hg w18 hbox hb; have BK276 := Aside0.mk (hbox); have GW276 := gz_ w hg; have GE276 := gz_ w hg; replace HB := Aside0.mk (below_step blw_ hb); clear hb hbox hg) | ((with_reducible refine gate_dst (N := 3) rfl ?_); refine bxe_ 3 #[.int .i64 a1_0, .int .i64 a1_1] 38 ?_; intro gb277 hg w19 hbox hb; have BK277 := Aside0.mk (hbox); have GW277 := gz_ w hg; have GE277 := gz_ w hg; have NB276_277 := nb_ BK276 hg; have NB277_276 := nbr_ BK276 hg; replace BK276 := bb_ BK276 hb; replace HB := Aside0.mk (below_step bls_ hb); clear hb hbox hg; have hnb20 := NB276_277.out; have hnc20 := NB277_276.out; have hcz21_0 := blc_ (.int .i64 a0_0) BK276 0; have hcz21_1 := blc_ (.int .i64 a0_1) BK276 1; have hfz21_0 := blk_frozen BK276.out 0; have hfz21_1 := blk_frozen BK276.out 1; have hcz22_0 := blc_ (.int .i64 a1_0) BK277 0; have hcz22_1 := blc_ (.int .i64 a1_1) BK277 1; have hfz22_0 := blk_frozen BK277.out 0; have hfz22_1 := blk_frozen BK277.out 1))
      go_ret
      exact er_
    ·rw [if_neg c11] at H
     have c11b0 : decide (a1_0 < a0_0) = false := decide_eq_false c11
     clear c11
     obtain rfl := Option.some.inj H
     go_enter Tryz.func31, Tryz.ntmps31
     go_wp2_with (first | ((with_reducible refine gate_dst (N := 2) rfl ?_); refine bxe_ 2 #[.int .i64 a0_0, .int .i64 a0_1] 38 ?_; intro gb276 hg w23 hbox hb; have BK276 := Aside0.mk (hbox); have GW276 := gz_ w hg; have GE276 := gz_ w hg; replace HB := Aside0.mk (below_step blw_ hb); clear hb hbox hg) | ((with_reducible refine gate_dst (N := 3) rfl ?_); refine bxe_ 3 #[.int .i64 a1_0, .int .i64 a1_1] 38 ?_; intro gb277 hg w24 hbox hb; have BK277 := Aside0.mk (hbox); have GW277 := gz_ w hg; have GE277 := gz_ w hg; have NB276_277 := nb_ BK276 hg; have NB277_276 := nbr_ BK276 hg; replace BK276 := bb_ BK276 hb; replace HB := Aside0.mk (below_step bls_ hb); clear hb hbox hg; have hnb25 := NB276_277.out; have hnc25 := NB277_276.out; have hcz26_0 := blc_ (.int .i64 a0_0) BK276 0; have hcz26_1 := blc_ (.int .i64 a0_1) BK276 1; have hfz26_0 := blk_frozen BK276.out 0; have hfz26_1 := blk_frozen BK276.out 1; have hcz27_0 := blc_ (.int .i64 a1_0) BK277 0; have hcz27_1 := blc_ (.int .i64 a1_1) BK277 1; have hfz27_0 := blk_frozen BK277.out 0; have hfz27_1 := blk_frozen BK277.out 1))
     go_ret
     exact er_
  ·rw [if_neg c4] at H
   have c4b0 : decide (a1_0 < a0_1) = false := decide_eq_false c4
   clear c4
   by_cases c28 : a1_0 < a0_0
   ·rw [if_pos c28] at H
    have c28b0 : decide (a1_0 < a0_0) = true := decide_eq_true c28
    clear c28
    by_cases c29 : a0_0 < a1_1
    ·rw [if_pos c29] at H
     have c29b0 : decide (a0_0 < a1_1) = true := decide_eq_true c29
     clear c29
     obtain rfl := Option.some.inj H
     go_enter Tryz.func31, Tryz.ntmps31
     go_wp2_with (first | ((with_reducible refine gate_dst (N := 2) rfl ?_); refine bxe_ 2 #[.int .i64 a0_0, .int .i64 a0_1] 38 ?_; intro gb276 hg w30 hbox hb; have BK276 := Aside0.mk (hbox); have GW276 := gz_ w hg; have GE276 := gz_ w hg; replace HB := Aside0.mk (below_step blw_ hb); clear hb hbox hg) | ((with_reducible refine gate_dst (N := 3) rfl ?_); refine bxe_ 3 #[.int .i64 a1_0, .int .i64 a1_1] 38 ?_; intro gb277 hg w31 hbox hb; have BK277 := Aside0.mk (hbox); have GW277 := gz_ w hg; have GE277 := gz_ w hg; have NB276_277 := nb_ BK276 hg; have NB277_276 := nbr_ BK276 hg; replace BK276 := bb_ BK276 hb; replace HB := Aside0.mk (below_step bls_ hb); clear hb hbox hg; have hnb32 := NB276_277.out; have hnc32 := NB277_276.out; have hcz33_0 := blc_ (.int .i64 a0_0) BK276 0; have hcz33_1 := blc_ (.int .i64 a0_1) BK276 1; have hfz33_0 := blk_frozen BK276.out 0; have hfz33_1 := blk_frozen BK276.out 1; have hcz34_0 := blc_ (.int .i64 a1_0) BK277 0; have hcz34_1 := blc_ (.int .i64 a1_1) BK277 1; have hfz34_0 := blk_frozen BK277.out 0; have hfz34_1 := blk_frozen BK277.out 1))
     go_ret
     exact er_
    ·rw [if_neg c29] at H
     have c29b0 : decide (a0_0 < a1_1) = false := decide_eq_false c29
     clear c29
     obtain rfl := Option.some.inj H
     go_enter Tryz.func31, Tryz.ntmps31
     go_wp2_with (first | ((with_reducible refine gate_dst (N := 2) rfl ?_); refine bxe_ 2 #[.int .i64 a0_0, .int .i64 a0_1] 38 ?_; intro gb276 hg w35 hbox hb; have BK276 := Aside0.mk (hbox); have GW276 := gz_ w hg; have GE276 := gz_ w hg; replace HB := Aside0.mk (below_step blw_ hb); clear hb hbox hg) | ((with_reducible refine gate_dst (N := 3) rfl ?_); refine bxe_ 3 #[.int .i64 a1_0, .int .i64 a1_1] 38 ?_; intro gb277 hg w36 hbox hb; have BK277 := Aside0.mk (hbox); have GW277 := gz_ w hg; have GE277 := gz_ w hg; have NB276_277 := nb_ BK276 hg; have NB277_276 := nbr_ BK276 hg; replace BK276 := bb_ BK276 hb; replace HB := Aside0.mk (below_step bls_ hb); clear hb hbox hg; have hnb37 := NB276_277.out; have hnc37 := NB277_276.out; have hcz38_0 := blc_ (.int .i64 a0_0) BK276 0; have hcz38_1 := blc_ (.int .i64 a0_1) BK276 1; have hfz38_0 := blk_frozen BK276.out 0; have hfz38_1 := blk_frozen BK276.out 1; have hcz39_0 := blc_ (.int .i64 a1_0) BK277 0; have hcz39_1 := blc_ (.int .i64 a1_1) BK277 1; have hfz39_0 := blk_frozen BK277.out 0; have hfz39_1 := blk_frozen BK277.out 1))
     go_ret
     exact er_
   ·rw [if_neg c28] at H
    have c28b0 : decide (a1_0 < a0_0) = false := decide_eq_false c28
    clear c28
    obtain rfl := Option.some.inj H
    go_enter Tryz.func31, Tryz.ntmps31
    go_wp2_with (first | ((with_reducible refine gate_dst (N := 2) rfl ?_); refine bxe_ 2 #[.int .i64 a0_0, .int .i64 a0_1] 38 ?_; intro gb276 hg w40 hbox hb; have BK276 := Aside0.mk (hbox); have GW276 := gz_ w hg; have GE276 := gz_ w hg; replace HB := Aside0.mk (below_step blw_ hb); clear hb hbox hg) | ((with_reducible refine gate_dst (N := 3) rfl ?_); refine bxe_ 3 #[.int .i64 a1_0, .int .i64 a1_1] 38 ?_; intro gb277 hg w41 hbox hb; have BK277 := Aside0.mk (hbox); have GW277 := gz_ w hg; have GE277 := gz_ w hg; have NB276_277 := nb_ BK276 hg; have NB277_276 := nbr_ BK276 hg; replace BK276 := bb_ BK276 hb; replace HB := Aside0.mk (below_step bls_ hb); clear hb hbox hg; have hnb42 := NB276_277.out; have hnc42 := NB277_276.out; have hcz43_0 := blc_ (.int .i64 a0_0) BK276 0; have hcz43_1 := blc_ (.int .i64 a0_1) BK276 1; have hfz43_0 := blk_frozen BK276.out 0; have hfz43_1 := blk_frozen BK276.out 1; have hcz44_0 := blc_ (.int .i64 a1_0) BK277 0; have hcz44_1 := blc_ (.int .i64 a1_1) BK277 1; have hfz44_0 := blk_frozen BK277.out 0; have hfz44_1 := blk_frozen BK277.out 1))
    go_ret
    exact er_
 ·rw [if_neg c3] at H
  have c3b0 : decide (a0_0 < a1_0) = false := decide_eq_false c3
  clear c3
  by_cases c45 : a1_0 < a0_0
  ·rw [if_pos c45] at H
   have c45b0 : decide (a1_0 < a0_0) = true := decide_eq_true c45
   clear c45
   by_cases c46 : a0_0 < a1_1
   ·rw [if_pos c46] at H
    have c46b0 : decide (a0_0 < a1_1) = true := decide_eq_true c46
    clear c46
    obtain rfl := Option.some.inj H
    go_enter Tryz.func31, Tryz.ntmps31
    go_wp2_with (first | ((with_reducible refine gate_dst (N := 2) rfl ?_); refine bxe_ 2 #[.int .i64 a0_0, .int .i64 a0_1] 38 ?_; intro gb276 hg w47 hbox hb; have BK276 := Aside0.mk (hbox); have GW276 := gz_ w hg; have GE276 := gz_ w hg; replace HB := Aside0.mk (below_step blw_ hb); clear hb hbox hg) | ((with_reducible refine gate_dst (N := 3) rfl ?_); refine bxe_ 3 #[.int .i64 a1_0, .int .i64 a1_1] 38 ?_; intro gb277 hg w48 hbox hb; have BK277 := Aside0.mk (hbox); have GW277 := gz_ w hg; have GE277 := gz_ w hg; have NB276_277 := nb_ BK276 hg; have NB277_276 := nbr_ BK276 hg; replace BK276 := bb_ BK276 hb; replace HB := Aside0.mk (below_step bls_ hb); clear hb hbox hg; have hnb49 := NB276_277.out; have hnc49 := NB277_276.out; have hcz50_0 := blc_ (.int .i64 a0_0) BK276 0; have hcz50_1 := blc_ (.int .i64 a0_1) BK276 1; have hfz50_0 := blk_frozen BK276.out 0; have hfz50_1 := blk_frozen BK276.out 1; have hcz51_0 := blc_ (.int .i64 a1_0) BK277 0; have hcz51_1 := blc_ (.int .i64 a1_1) BK277 1; have hfz51_0 := blk_frozen BK277.out 0; have hfz51_1 := blk_frozen BK277.out 1))
    go_ret
    exact er_
   ·rw [if_neg c46] at H
    have c46b0 : decide (a0_0 < a1_1) = false := decide_eq_false c46
    clear c46
    obtain rfl := Option.some.inj H
    go_enter Tryz.func31, Tryz.ntmps31
    go_wp2_with (first | ((with_reducible refine gate_dst (N := 2) rfl ?_); refine bxe_ 2 #[.int .i64 a0_0, .int .i64 a0_1] 38 ?_; intro gb276 hg w52 hbox hb; have BK276 := Aside0.mk (hbox); have GW276 := gz_ w hg; have GE276 := gz_ w hg; replace HB := Aside0.mk (below_step blw_ hb); clear hb hbox hg) | ((with_reducible refine gate_dst (N := 3) rfl ?_); refine bxe_ 3 #[.int .i64 a1_0, .int .i64 a1_1] 38 ?_; intro gb277 hg w53 hbox hb; have BK277 := Aside0.mk (hbox); have GW277 := gz_ w hg; have GE277 := gz_ w hg; have NB276_277 := nb_ BK276 hg; have NB277_276 := nbr_ BK276 hg; replace BK276 := bb_ BK276 hb; replace HB := Aside0.mk (below_step bls_ hb); clear hb hbox hg; have hnb54 := NB276_277.out; have hnc54 := NB277_276.out; have hcz55_0 := blc_ (.int .i64 a0_0) BK276 0; have hcz55_1 := blc_ (.int .i64 a0_1) BK276 1; have hfz55_0 := blk_frozen BK276.out 0; have hfz55_1 := blk_frozen BK276.out 1; have hcz56_0 := blc_ (.int .i64 a1_0) BK277 0; have hcz56_1 := blc_ (.int .i64 a1_1) BK277 1; have hfz56_0 := blk_frozen BK277.out 0; have hfz56_1 := blk_frozen BK277.out 1))
    go_ret
    exact er_
  ·rw [if_neg c45] at H
   have c45b0 : decide (a1_0 < a0_0) = false := decide_eq_false c45
   clear c45
   obtain rfl := Option.some.inj H
   go_enter Tryz.func31, Tryz.ntmps31
   go_wp2_with (first | ((with_reducible refine gate_dst (N := 2) rfl ?_); refine bxe_ 2 #[.int .i64 a0_0, .int .i64 a0_1] 38 ?_; intro gb276 hg w57 hbox hb; have BK276 := Aside0.mk (hbox); have GW276 := gz_ w hg; have GE276 := gz_ w hg; replace HB := Aside0.mk (below_step blw_ hb); clear hb hbox hg) | ((with_reducible refine gate_dst (N := 3) rfl ?_); refine bxe_ 3 #[.int .i64 a1_0, .int .i64 a1_1] 38 ?_; intro gb277 hg w58 hbox hb; have BK277 := Aside0.mk (hbox); have GW277 := gz_ w hg; have GE277 := gz_ w hg; have NB276_277 := nb_ BK276 hg; have NB277_276 := nbr_ BK276 hg; replace BK276 := bb_ BK276 hb; replace HB := Aside0.mk (below_step bls_ hb); clear hb hbox hg; have hnb59 := NB276_277.out; have hnc59 := NB277_276.out; have hcz60_0 := blc_ (.int .i64 a0_0) BK276 0; have hcz60_1 := blc_ (.int .i64 a0_1) BK276 1; have hfz60_0 := blk_frozen BK276.out 0; have hfz60_1 := blk_frozen BK276.out 1; have hcz61_0 := blc_ (.int .i64 a1_0) BK277 0; have hcz61_1 := blc_ (.int .i64 a1_1) BK277 1; have hfz61_0 := blk_frozen BK277.out 0; have hfz61_1 := blk_frozen BK277.out 1))
   go_ret
   exact er_

-- TOLD FOR impl_IsTriangulation_1_s2: impl.IsTriangulation$1 | 
/-! ### impl_IsTriangulation_1_s2: function 100002 -/
def impl_IsTriangulation_1_s2.f (a0_0 : Int) (a0_1 : Int) (a1_0_0 : Int) (a1_0_1 : Int) : Option (Bool) := (impl_doCross.f a1_0_0 a1_0_1 a0_0 a0_1).bind fun t279 => (some t279)
set_option maxHeartbeats 8000000 in
set_option maxRecDepth 100000 in
theorem impl_IsTriangulation_1_s2.calls (a0_0 : Int) (a0_1 : Int) (gc1_0 : Nat) (a1_0_0 : Int) (a1_0_1 : Int) (r : Bool) (w : World) (hb1_0 : w.heap[gc1_0]? = some (.cells #[.int .i64 a1_0_0, .int .i64 a1_0_1] 38 (0, 0))) (h : impl_IsTriangulation_1_s2.f a0_0 a0_1 a1_0_0 a1_0_1 = some r) :
  Calls Tryz.prog 44 #[.agg #[.int .i64 a0_0, .int .i64 a0_1], .pointer (some ⟨gc1_0, 0, none⟩)] w fun e w' => e = .returned (.bool r) ∧ Below w.heap.size w w' := by
 have hu38 := Tryz.underlying38
 have BK20 := Aside0.mk hb1_0
 clear hb1_0
 have HB := Aside0.mk (Below.refl w.heap.size w)
 have H : ((impl_doCross.f a1_0_0 a1_0_1 a0_0 a0_1).bind fun t279 => (some t279)) = some r := h
 clear h
 replace H := Option.bind_eq_some_iff.mp H
 obtain ⟨t279, A30, H⟩ := H
 replace H : (some t279) = some r := H
 have A3 := Aside0.mk A30
 clear A30
 obtain rfl := Option.some.inj H
 go_enter Tryz.func44, Tryz.ntmps44
 go_wp2_with (first | ((with_reducible refine gate_dst (N := 2) rfl ?_); refine bxe_ 2 #[.int .i64 a0_0, .int .i64 a0_1] 38 ?_; intro gb278 hg w4 hbox hb; have BK278 := Aside0.mk (hbox); have GW278 := gz_ w hg; have GE278 := gz_ w hg; have NB20_278 := nb_ BK20 hg; have NB278_20 := nbr_ BK20 hg; replace BK20 := bb_ BK20 hb; replace HB := Aside0.mk (below_step bls_ hb); clear hb hbox hg; have hnb5 := NB20_278.out; have hnc5 := NB278_20.out; have hcz6_0 := blc_ (.int .i64 a1_0_0) BK20 0; have hcz6_1 := blc_ (.int .i64 a1_0_1) BK20 1; have hfz6_0 := blk_frozen BK20.out 0; have hfz6_1 := blk_frozen BK20.out 1; have hcz7_0 := blc_ (.int .i64 a0_0) BK278 0; have hcz7_1 := blc_ (.int .i64 a0_1) BK278 1; have hfz7_0 := blk_frozen BK278.out 0; have hfz7_1 := blk_frozen BK278.out 1) | ((with_reducible refine gate_callee (f := 31) rfl ?_); refine goesL_ (some 6) rfl rfl Tryz.func31 (by kernel_rfl) rfl #[.agg #[.int .i64 a1_0_0, .int .i64 a1_0_1], .agg #[.int .i64 a0_0, .int .i64 a0_1]] rfl amp_ ?_; (with_reducible refine (impl_doCross.calls a1_0_0 a1_0_1 a0_0 a0_1 t279 _ A3.out).mono ?_); rintro e w8 ⟨rfl, hb⟩; refine ⟨_, rfl, ?_⟩; replace BK20 := bb_ BK20 hb; replace BK278 := bb_ BK278 hb; replace HB := Aside0.mk (below_step bls_ hb); (try clear hb); (try clear hb2); (try clear hk); (try clear hi)))
 go_ret
 exact er_

-- TOLD FOR impl_Diagonal_48_s1: slices.IndexFunc[[]impl.Diagonal,impl.Diagonal] | impl.IsTriangulation$1
/-! ### impl_Diagonal_48_s1: function 100001 -/
def impl_Diagonal_48_s1.l0 : Nat → List (S38) → Int → Int → Int → Int → Option (Int)
 | 0, _, _, _, _, _ => none
 | k + 1, x0, x7, x8, x21000, x21001 => if x8 < x7 then (if 0 ≤ x8 then (if x8 < (x0.length : Int) then ((impl_IsTriangulation_1_s2.f ((rd_T38 x0 x8).f0) ((rd_T38 x0 x8).f1) x21000 x21001).bind fun t281 => (if t281 = true then (some x8) else (impl_Diagonal_48_s1.l0 k x0 x7 (wrap64 (x8 + 1)) x21000 x21001))) else (none)) else (none)) else (some (-1))
def impl_Diagonal_48_s1.f (k : Nat) (l0 : List (S38)) (a1_0_0 : Int) (a1_0_1 : Int) : Option (Int) := impl_Diagonal_48_s1.l0 k l0 (l0.length : Int) 0 a1_0_0 a1_0_1
theorem impl_Diagonal_48_s1.mono_l : ∀ k, (∀ y0 y1 y2 y3 y4, LeO (impl_Diagonal_48_s1.l0 k y0 y1 y2 y3 y4) (impl_Diagonal_48_s1.l0 (k + 1) y0 y1 y2 y3 y4))
 | 0 => fun _ _ _ _ _ r h => by simp [impl_Diagonal_48_s1.l0] at h
 | k + 1 => by
  have ih0 := impl_Diagonal_48_s1.mono_l k
  ·intro y0 y1 y2 y3 y4
   unfold impl_Diagonal_48_s1.l0
   repeat' first
   | (with_reducible exact ih0 _ _ _ _ _)
   | (with_reducible exact LeO.refl _)
   | (with_reducible exact LeO.none _)
   | (with_reducible refine LeO.ite ?_ ?_)
   | (with_reducible refine LeO.bind ?_ (fun _ => ?_))
   | exact ih0 _ _ _ _ _
   | exact LeO.none _
   | refine LeO.ite ?_ ?_
   | refine LeO.bind ?_ (fun _ => ?_)
theorem impl_Diagonal_48_s1.mono : ∀ a0 a1 a2 k, LeO (impl_Diagonal_48_s1.f k a0 a1 a2) (impl_Diagonal_48_s1.f (k + 1) a0 a1 a2) := by
 intro a0 a1 a2 k
 have ih0 := impl_Diagonal_48_s1.mono_l k
 unfold impl_Diagonal_48_s1.f
 repeat' first
   | (with_reducible exact ih0 _ _ _ _ _)
   | (with_reducible exact LeO.refl _)
   | (with_reducible exact LeO.none _)
   | (with_reducible refine LeO.ite ?_ ?_)
   | (with_reducible refine LeO.bind ?_ (fun _ => ?_))
   | exact ih0 _ _ _ _ _
   | exact LeO.none _
   | refine LeO.ite ?_ ?_
   | refine LeO.bind ?_ (fun _ => ?_)
set_option maxHeartbeats 8000000 in
set_option maxRecDepth 100000 in
theorem impl_Diagonal_48_s1.calls (k : Nat) (A0 : Option Addr) (c0 : Nat) (l0 : List (S38)) (gc1_0 : Nat) (a1_0_0 : Int) (a1_0_1 : Int) (r : Int) (w : World) (hr0 : Kd.C k38 w A0 l0.length l0) (hc0 : l0.length ≤ c0) (hb1_0 : w.heap[gc1_0]? = some (.cells #[.int .i64 a1_0_0, .int .i64 a1_0_1] 38 (0, 0))) (h : impl_Diagonal_48_s1.f k l0 a1_0_0 a1_0_1 = some r) :
  Calls Tryz.prog 48 #[.slice A0 l0.length c0, .func (.func 44) #[] #[.pointer (some ⟨gc1_0, 0, none⟩)]] w fun e w' => e = .returned (.int .i64 r) ∧ Below w.heap.size w w' := by
 have hu38 := Tryz.underlying38
 have HR0 := Aside0.mk hr0
 have HC0 := Aside0.mk hc0
 clear hr0 hc0
 have BK20 := Aside0.mk hb1_0
 clear hb1_0
 have HB := Aside0.mk (Below.refl w.heap.size w)
 have H : (impl_Diagonal_48_s1.l0 k l0 (l0.length : Int) 0 a1_0_0 a1_0_1) = some r := h
 clear h
 have H' := Aside0.mk H
 clear H
 go_enter Tryz.func48, Tryz.ntmps48
 go_wp2
 go_loopg [8] k (fun kq v8 w' => ∃ (x8_1 : Int), v8 = .int .i64 x8_1 ∧ Aside0 (impl_Diagonal_48_s1.l0 kq l0 (l0.length : Int) x8_1 a1_0_0 a1_0_1 = some r) ∧ Aside0 (kq ≤ k) ∧ Aside0 (w'.heap[gc1_0]? = some (.cells #[.int .i64 a1_0_0, .int .i64 a1_0_1] 38 (0, 0))) ∧ Aside0 (Below w.heap.size w w'))
 case atStart => exact ⟨(0), rsd_, H', ⟨Nat.le_refl _⟩, ⟨bk_ BK20.out⟩, ⟨bls_⟩⟩
 case round =>
  clear H'
  try clear c1
  try clear p2
  obtain ⟨x8_1, rfl, HA, HK1, BK20, HB⟩ := hrel
  cases gk with
  | zero => exact absurd HA.out (by simp [impl_Diagonal_48_s1.l0])
  | succ k1 =>
   have H := HA.out
   clear HA
   simp only [impl_Diagonal_48_s1.l0] at H
   by_cases c3 : x8_1 < (l0.length : Int)
   ·rw [if_pos c3] at H
    have c3b0 : decide (x8_1 < (l0.length : Int)) = true := decide_eq_true c3
    clear c3
    by_cases c4 : 0 ≤ x8_1
    case neg=>rw [if_neg c4] at H;exact absurd H (by simp)
    rw [if_pos c4] at H
    have c4b0 : decide (0 ≤ x8_1) = true := decide_eq_true c4
    clear c4
    by_cases c5 : x8_1 < (l0.length : Int)
    case neg=>rw [if_neg c5] at H;exact absurd H (by simp)
    rw [if_pos c5] at H
    have c5b0 : decide (x8_1 < (l0.length : Int)) = true := decide_eq_true c5
    clear c5
    replace H := Option.bind_eq_some_iff.mp H
    obtain ⟨t281, A60, H⟩ := H
    replace H : (if t281 = true then (some x8_1) else (impl_Diagonal_48_s1.l0 k1 l0 (l0.length : Int) (wrap64 (x8_1 + 1)) a1_0_0 a1_0_1)) = some r := H
    have A6 := Aside0.mk A60
    clear A60
    by_cases c7 : t281 = true
    ·subst c7
     replace H : (some x8_1) = some r := by rw [if_pos rfl] at H; exact H
     obtain rfl := Option.some.inj H
     have p280 : 0 ≤ (x8_1 : Int) := odt_
     have q280 : x8_1 < (l0.length : Int) := odt_
     obtain ⟨ad280, e280, hx280_0, hx280_1⟩ := at_T38 HR0.out x8_1 p280 q280
     cases e280
     (first | replace hx280_0 := (HB.out.cell (World.block_lt_of_cell? w _ hx280_0)).trans hx280_0 | skip)
     (first | replace hx280_1 := (HB.out.cell (World.block_lt_of_cell? w _ hx280_1)).trans hx280_1 | skip)
     replace p280 := eq_true p280
     replace q280 := eq_true q280
     go_wp2_with (first | (go_at_call 44; (with_reducible refine (impl_IsTriangulation_1_s2.calls ((rd_T38 l0 x8_1).f0) ((rd_T38 l0 x8_1).f1) gc1_0 a1_0_0 a1_0_1 true _ ?side1 A6.out).mono ?_); (case side1 => (with_reducible repeat (first | refine blk_drewN ?_ _ | refine blk_drew ?_ | refine blk_alloc ?_ _)); exact BK20.out); rintro e w8 ⟨rfl, hb⟩; (try replace hb := Drawn0.below hb); replace BK20 := bb_ BK20 hb; replace HB := Aside0.mk (below_step bls_ hb); (try clear hb); (try clear hb2); (try clear hk); (try clear hi)))
     go_ret
     exact er_
    ·replace c7 := Bool.eq_false_iff.mpr c7
     subst c7
     replace H : (impl_Diagonal_48_s1.l0 k1 l0 (l0.length : Int) (wrap64 (x8_1 + 1)) a1_0_0 a1_0_1) = some r := by rw [if_neg (show ¬ (false = true) by decide)] at H; exact H
     have H' := Aside0.mk H
     clear H
     have p280 : 0 ≤ (x8_1 : Int) := odt_
     have q280 : x8_1 < (l0.length : Int) := odt_
     obtain ⟨ad280, e280, hx280_0, hx280_1⟩ := at_T38 HR0.out x8_1 p280 q280
     cases e280
     (first | replace hx280_0 := (HB.out.cell (World.block_lt_of_cell? w _ hx280_0)).trans hx280_0 | skip)
     (first | replace hx280_1 := (HB.out.cell (World.block_lt_of_cell? w _ hx280_1)).trans hx280_1 | skip)
     replace p280 := eq_true p280
     replace q280 := eq_true q280
     go_wp2_with (first | (go_at_call 44; (with_reducible refine (impl_IsTriangulation_1_s2.calls ((rd_T38 l0 x8_1).f0) ((rd_T38 l0 x8_1).f1) gc1_0 a1_0_0 a1_0_1 false _ ?side1 A6.out).mono ?_); (case side1 => (with_reducible repeat (first | refine blk_drewN ?_ _ | refine blk_drew ?_ | refine blk_alloc ?_ _)); exact BK20.out); rintro e w9 ⟨rfl, hb⟩; (try replace hb := Drawn0.below hb); replace BK20 := bb_ BK20 hb; replace HB := Aside0.mk (below_step bls_ hb); (try clear hb); (try clear hb2); (try clear hk); (try clear hi)))
     go_roundg k1
     case measure => have := HK1.out; omega
     case rel => exact ⟨(wrap64 (x8_1 + 1)), rsd_, H', ⟨by have := HK1.out; omega⟩, ⟨bk_ BK20.out⟩, ⟨bls_⟩⟩
   ·rw [if_neg c3] at H
    have c3b0 : decide (x8_1 < (l0.length : Int)) = false := decide_eq_false c3
    clear c3
    obtain rfl := Option.some.inj H
    go_wp2
    go_ret
    exact er_

-- TOLD FOR impl_Diagonal_29_s0: slices.ContainsFunc[[]impl.Diagonal,impl.Diagonal] | impl.IsTriangulation$1
/-! ### impl_Diagonal_29_s0: function 100000 -/
def impl_Diagonal_29_s0.f (k : Nat) (l0 : List (S38)) (a1_0_0 : Int) (a1_0_1 : Int) : Option (Bool) := (impl_Diagonal_48_s1.f k l0 a1_0_0 a1_0_1).bind fun t282 => (some (decide (t282 ≥ 0)))
theorem impl_Diagonal_29_s0.mono : ∀ a0 a1 a2 k, LeO (impl_Diagonal_29_s0.f k a0 a1 a2) (impl_Diagonal_29_s0.f (k + 1) a0 a1 a2) := by
 intro a0 a1 a2 k
 unfold impl_Diagonal_29_s0.f
 repeat' first
   | (with_reducible exact impl_Diagonal_48_s1.mono _ _ _ _)
   | (with_reducible exact LeO.refl _)
   | (with_reducible exact LeO.none _)
   | (with_reducible refine LeO.ite ?_ ?_)
   | (with_reducible refine LeO.bind ?_ (fun _ => ?_))
   | exact impl_Diagonal_48_s1.mono _ _ _ _
   | exact LeO.none _
   | refine LeO.ite ?_ ?_
   | refine LeO.bind ?_ (fun _ => ?_)
set_option maxHeartbeats 8000000 in
set_option maxRecDepth 100000 in
theorem impl_Diagonal_29_s0.calls (k : Nat) (A0 : Option Addr) (c0 : Nat) (l0 : List (S38)) (gc1_0 : Nat) (a1_0_0 : Int) (a1_0_1 : Int) (r : Bool) (w : World) (hr0 : Kd.C k38 w A0 l0.length l0) (hc0 : l0.length ≤ c0) (hb1_0 : w.heap[gc1_0]? = some (.cells #[.int .i64 a1_0_0, .int .i64 a1_0_1] 38 (0, 0))) (h : impl_Diagonal_29_s0.f k l0 a1_0_0 a1_0_1 = some r) :
  Calls Tryz.prog 29 #[.slice A0 l0.length c0, .func (.func 44) #[] #[.pointer (some ⟨gc1_0, 0, none⟩)]] w fun e w' => e = .returned (.bool r) ∧ Below w.heap.size w w' := by
 have HR0 := Aside0.mk hr0
 have HC0 := Aside0.mk hc0
 clear hr0 hc0
 have BK20 := Aside0.mk hb1_0
 clear hb1_0
 have HB := Aside0.mk (Below.refl w.heap.size w)
 have H : ((impl_Diagonal_48_s1.f k l0 a1_0_0 a1_0_1).bind fun t282 => (some (decide (t282 ≥ 0)))) = some r := h
 clear h
 replace H := Option.bind_eq_some_iff.mp H
 obtain ⟨t282, A30, H⟩ := H
 replace H : (some (decide (t282 ≥ 0))) = some r := H
 have A3 := Aside0.mk A30
 clear A30
 obtain rfl := Option.some.inj H
 go_enter Tryz.func29, Tryz.ntmps29
 go_wp2_with (first | ((with_reducible refine gate_callee (f := 48) rfl ?_); refine goesL_ (some 7) rfl rfl Tryz.func48 (by kernel_rfl) rfl #[.slice A0 l0.length c0, .func (.func 44) #[] #[.pointer (some ⟨gc1_0, 0, none⟩)]] rfl amp_ ?_; (with_reducible refine (impl_Diagonal_48_s1.calls k _ _ l0 gc1_0 a1_0_0 a1_0_1 t282 _ ?side1 ?side2 ?side3 A3.out).mono ?_); (case side1 => exact cd_ HR0.out); (case side2 => exact HC0.out); (case side3 => (with_reducible repeat (first | refine blk_drewN ?_ _ | refine blk_drew ?_ | refine blk_alloc ?_ _)); exact BK20.out); rintro e w4 ⟨rfl, hb⟩; refine ⟨_, rfl, ?_⟩; replace BK20 := bb_ BK20 hb; replace HB := Aside0.mk (below_step bls_ hb); (try clear hb); (try clear hb2); (try clear hk); (try clear hi)))
 go_ret
 exact er_

end Go.Proofs.YtgblginphicacaaGreatDoor.PFnExactCountByFlips
