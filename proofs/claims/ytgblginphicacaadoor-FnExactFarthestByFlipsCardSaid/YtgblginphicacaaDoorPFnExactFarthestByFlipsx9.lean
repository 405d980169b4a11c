-- WRITTEN BY A PROGRAM OF THIS WORK (wip/tools/ppatch.py) for this claim.
import Derived.Test.YtgblginphicacaaDoorPFnExactFarthestByFlipsx0
import Derived.Test.YtgblginphicacaaDoorPFnExactFarthestByFlipsx1
import Derived.Test.YtgblginphicacaaDoorPFnExactFarthestByFlipsx8
namespace Go.Proofs.YtgblginphicacaaDoor.PFnExactFarthestByFlips
open Go.RowKit Go.Proofs.YtgblginphicacaaDoorW.PrintWords Go.Proofs.YtgblginphicacaaDoorW.PrintLast Go.Proofs.YtgblginphicacaaDoorW.PrintMore
attribute [local go_sem] max2_int min2_int max_two min_two max_three min_three max_four min_four   -- for this text's walks alone
set_option linter.unusedVariables false
set_option linter.unusedSimpArgs false

attribute [local go_sem high] eqA49
/-! ### spec_l1Most: function 23 -/
def spec_l1Most.f (a0 : Int) (a1 : Int) : Option (Int) := if a0 > a1 then (some a0) else (some a1)
set_option maxHeartbeats 8000000 in
set_option maxRecDepth 100000 in
theorem spec_l1Most.calls (a0 : Int) (a1 : Int) (r : Int) (w : World) (h : spec_l1Most.f a0 a1 = some r) :
  Calls Tryd.prog 23 #[.int .i64 a0, .int .i64 a1] w fun e w' => e = .returned (.int .i64 r) ∧ Drawn0 w w' := by
 have H : (if a0 > a1 then (some a0) else (some a1)) = some r := h
 clear h
 by_cases c3 : a0 > a1
 ·rw [if_pos c3] at H
  have c3b0 : decide (a1 < a0) = true := decide_eq_true c3
  clear c3
  obtain rfl := Option.some.inj H
  go_enter Tryd.func23, Tryd.ntmps23
  go_wp2
  go_ret
  exact dr_
 ·rw [if_neg c3] at H
  have c3b0 : decide (a1 < a0) = false := decide_eq_false c3
  clear c3
  obtain rfl := Option.some.inj H
  go_enter Tryd.func23, Tryd.ntmps23
  go_wp2
  go_ret
  exact dr_

/-! ### spec_l1Least: function 69 -/
def spec_l1Least.f (a0 : Int) (a1 : Int) : Option (Int) := if a0 < a1 then (some a0) else (some a1)
set_option maxHeartbeats 8000000 in
set_option maxRecDepth 100000 in
theorem spec_l1Least.calls (a0 : Int) (a1 : Int) (r : Int) (w : World) (h : spec_l1Least.f a0 a1 = some r) :
  Calls Tryd.prog 69 #[.int .i64 a0, .int .i64 a1] w fun e w' => e = .returned (.int .i64 r) ∧ Drawn0 w w' := by
 have H : (if a0 < a1 then (some a0) else (some a1)) = some r := h
 clear h
 by_cases c3 : a0 < a1
 ·rw [if_pos c3] at H
  have c3b0 : decide (a0 < a1) = true := decide_eq_true c3
  clear c3
  obtain rfl := Option.some.inj H
  go_enter Tryd.func69, Tryd.ntmps69
  go_wp2
  go_ret
  exact dr_
 ·rw [if_neg c3] at H
  have c3b0 : decide (a0 < a1) = false := decide_eq_false c3
  clear c3
  obtain rfl := Option.some.inj H
  go_enter Tryd.func69, Tryd.ntmps69
  go_wp2
  go_ret
  exact dr_

/-! ### spec_poJoined: function 70 -/
mutual
def spec_poJoined.j0 : Nat → List (S49) → Int → Int → Bool → Option (Bool)
 | 0, _, _, _, _ => none
 | k + 1, x1, x2, x3, x22 => if x22 = true then (some true) else (spec_poJoined.l0 k x2 x3 x1 (x1.length : Int) 0)
def spec_poJoined.l0 : Nat → Int → Int → List (S49) → Int → Int → Option (Bool)
 | 0, _, _, _, _, _ => none
 | k + 1, x2, x3, x23, x24, x25 => if x25 < x24 then (if 0 ≤ x25 then (if x25 < (x23.length : Int) then (if ((rd_T49 x23 x25).f0) = x2 then (if ((rd_T49 x23 x25).f1) = x3 then (some true) else (spec_poJoined.l0 k x2 x3 x23 x24 (wrap64 (x25 + 1)))) else (spec_poJoined.l0 k x2 x3 x23 x24 (wrap64 (x25 + 1)))) else (none)) else (none)) else (some false)
end
def spec_poJoined.f (k : Nat) (a0 : Int) (l1 : List (S49)) (a2 : Int) (a3 : Int) : Option (Bool) := if (wrap64 (a3 - a2)) = 1 then (spec_poJoined.j0 k l1 a2 a3 true) else (spec_poJoined.j0 k l1 a2 a3 ((wrap64 (a3 - a2)) == (wrap64 (a0 - 1))))
theorem spec_poJoined.mono_l : ∀ k, (∀ y0 y1 y2 y3, LeO (spec_poJoined.j0 k y0 y1 y2 y3) (spec_poJoined.j0 (k + 1) y0 y1 y2 y3)) ∧ (∀ y0 y1 y2 y3 y4, LeO (spec_poJoined.l0 k y0 y1 y2 y3 y4) (spec_poJoined.l0 (k + 1) y0 y1 y2 y3 y4))
 | 0 => ⟨fun _ _ _ _ r h => by simp [spec_poJoined.j0] at h, fun _ _ _ _ _ r h => by simp [spec_poJoined.l0] at h⟩
 | k + 1 => by
  obtain ⟨ih0, ih1⟩ := spec_poJoined.mono_l k
  refine ⟨?_, ?_⟩
  ·intro y0 y1 y2 y3
   unfold spec_poJoined.j0
   repeat' first
   | (with_reducible exact ih0 _ _ _ _)
   | (with_reducible exact ih1 _ _ _ _ _)
   | (with_reducible exact LeO.refl _)
   | (with_reducible exact LeO.none _)
   | (with_reducible refine LeO.ite ?_ ?_)
   | (with_reducible refine LeO.bind ?_ (fun _ => ?_))
   | exact ih0 _ _ _ _
   | exact ih1 _ _ _ _ _
   | exact LeO.none _
   | refine LeO.ite ?_ ?_
   | refine LeO.bind ?_ (fun _ => ?_)
  ·intro y0 y1 y2 y3 y4
   unfold spec_poJoined.l0
   repeat' first
   | (with_reducible exact ih0 _ _ _ _)
   | (with_reducible exact ih1 _ _ _ _ _)
   | (with_reducible exact LeO.refl _)
   | (with_reducible exact LeO.none _)
   | (with_reducible refine LeO.ite ?_ ?_)
   | (with_reducible refine LeO.bind ?_ (fun _ => ?_))
   | exact ih0 _ _ _ _
   | exact ih1 _ _ _ _ _
   | exact LeO.none _
   | refine LeO.ite ?_ ?_
   | refine LeO.bind ?_ (fun _ => ?_)
theorem spec_poJoined.mono : ∀ a0 a1 a2 a3 k, LeO (spec_poJoined.f k a0 a1 a2 a3) (spec_poJoined.f (k + 1) a0 a1 a2 a3) := by
 intro a0 a1 a2 a3 k
 obtain ⟨ih0, ih1⟩ := spec_poJoined.mono_l k
 unfold spec_poJoined.f
 repeat' first
   | (with_reducible exact ih0 _ _ _ _)
   | (with_reducible exact ih1 _ _ _ _ _)
   | (with_reducible exact LeO.refl _)
   | (with_reducible exact LeO.none _)
   | (with_reducible refine LeO.ite ?_ ?_)
   | (with_reducible refine LeO.bind ?_ (fun _ => ?_))
   | exact ih0 _ _ _ _
   | exact ih1 _ _ _ _ _
   | exact LeO.none _
   | refine LeO.ite ?_ ?_
   | refine LeO.bind ?_ (fun _ => ?_)
set_option maxHeartbeats 8000000 in
set_option maxRecDepth 100000 in
theorem spec_poJoined.calls (k : Nat) (a0 : Int) (A1 : Option Addr) (c1 : Nat) (l1 : List (S49)) (a2 : Int) (a3 : Int) (r : Bool) (w : World) (hr1 : Kd.C k49 w A1 l1.length l1) (hc1 : l1.length ≤ c1) (h : spec_poJoined.f k a0 l1 a2 a3 = some r) :
  Calls Tryd.prog 70 #[.int .i64 a0, .slice A1 l1.length c1, .int .i64 a2, .int .i64 a3] w fun e w' => e = .returned (.bool r) ∧ Below w.heap.size w w' := by
 have hu49 := Tryd.underlying49
 have HR1 := Aside0.mk hr1
 have HC1 := Aside0.mk hc1
 clear hr1 hc1
 have HB := Aside0.mk (Below.refl w.heap.size w)
 have H : (if (wrap64 (a3 - a2)) = 1 then (spec_poJoined.j0 k l1 a2 a3 true) else (spec_poJoined.j0 k l1 a2 a3 ((wrap64 (a3 - a2)) == (wrap64 (a0 - 1))))) = some r := h
 clear h
 have HC5 := Aside0.mk H
 clear H
 go_enter Tryd.func70, Tryd.ntmps70
 go_upto_region 1 with (fail)
 go_cut [22] (fun v22 wc => ∃ (kq : Nat) (x22_4 : Bool), v22 = .bool x22_4 ∧ Aside0 (spec_poJoined.j0 kq l1 a2 a3 x22_4 = some r) ∧ Aside0 (kq ≤ k) ∧ Aside0 (Below w.heap.size w wc))
 case first =>
  have H := HC5.out
  clear HC5
  by_cases c6 : (wrap64 (a3 - a2)) = 1
  ·rw [if_pos c6] at H
   have c6b0 : ((wrap64 (a3 - a2)) == 1) = true := beq_iff_eq.mpr c6
   have c6b1 : ((wrap64 (a3 - a2)) != 1) = false := bne_eq_false_iff_eq.mpr c6
   clear c6
   (first | rw [c6b0] | (simp only [i64_w, i32_w]; rw [c6b0]) | skip)
   have H' := Aside0.mk H
   clear H
   go_wp2
   go_meet
   case rel => exact ⟨_, (true), rsd_, H', ⟨by first | omega | exact Nat.le_refl _⟩, ⟨blw_⟩⟩
  ·rw [if_neg c6] at H
   have c6b0 : ((wrap64 (a3 - a2)) == 1) = false := beq_eq_false_iff_ne.mpr c6
   have c6b1 : ((wrap64 (a3 - a2)) != 1) = true := bne_iff_ne.mpr c6
   (first | rw [c6b0] | (simp only [i64_w, i32_w]; rw [c6b0]) | skip)
   have H' := Aside0.mk H
   clear H
   go_wp2
   go_meet
   case rel => exact ⟨_, (((wrap64 (a3 - a2)) == (wrap64 (a0 - 1)))), rsd_, H', ⟨by first | omega | exact Nat.le_refl _⟩, ⟨blw_⟩⟩
 case rest =>
  clear HC5
  try clear c1
  try clear p2
  try clear c6
  try clear c6b0
  try clear c6b1
  try clear p6
  obtain ⟨kq, x22_4, rfl, HA, HJ4, HB⟩ := hcut
  cases kq with
  | zero => exact absurd HA.out (by simp [spec_poJoined.j0])
  | succ kj4 =>
   have H := HA.out
   clear HA
   simp only [spec_poJoined.j0] at H
   by_cases c7 : x22_4 = true
   ·subst c7
    replace H : (some true) = some r := by rw [if_pos rfl] at H; exact H
    obtain rfl := Option.some.inj H
    go_wp2
    go_ret
    exact er_
   ·replace c7 := Bool.eq_false_iff.mpr c7
    subst c7
    replace H : (spec_poJoined.l0 kj4 a2 a3 l1 (l1.length : Int) 0) = some r := by rw [if_neg (show ¬ (false = true) by decide)] at H; exact H
    have H' := Aside0.mk H
    clear H
    go_wp2
    go_loopg [25] kj4 (fun kq v25 w' => ∃ (x25_2 : Int), v25 = .int .i64 x25_2 ∧ Aside0 (spec_poJoined.l0 kq a2 a3 l1 (l1.length : Int) x25_2 = some r) ∧ Aside0 (kq ≤ kj4) ∧ Aside0 (Below w.heap.size w w'))
    case atStart => exact ⟨(0), rsd_, H', ⟨Nat.le_refl _⟩, ⟨blw_⟩⟩
    case round =>
     clear H'
     try clear c1
     try clear p2
     try clear c6
     try clear c6b0
     try clear c6b1
     try clear p6
     try clear c7
     try clear p2
     try clear p6
     obtain ⟨x25_2, rfl, HA, HK2, HB⟩ := hrel
     cases gk with
     | zero => exact absurd HA.out (by simp [spec_poJoined.l0])
     | succ k2 =>
      have H := HA.out
      clear HA
      simp only [spec_poJoined.l0] at H
      by_cases c8 : x25_2 < (l1.length : Int)
      ·rw [if_pos c8] at H
       have c8b0 : decide (x25_2 < (l1.length : Int)) = true := decide_eq_true c8
       clear c8
       by_cases c9 : 0 ≤ x25_2
       case neg=>rw [if_neg c9] at H;exact absurd H (by simp)
       rw [if_pos c9] at H
       have c9b0 : decide (0 ≤ x25_2) = true := decide_eq_true c9
       clear c9
       by_cases c10 : x25_2 < (l1.length : Int)
       case neg=>rw [if_neg c10] at H;exact absurd H (by simp)
       rw [if_pos c10] at H
       have c10b0 : decide (x25_2 < (l1.length : Int)) = true := decide_eq_true c10
       clear c10
       by_cases c11 : ((rd_T49 l1 x25_2).f0) = a2
       ·rw [if_pos c11] at H
        have c11b0 : (((rd_T49 l1 x25_2).f0) == a2) = true := beq_iff_eq.mpr c11
        have c11b1 : (((rd_T49 l1 x25_2).f0) != a2) = false := bne_eq_false_iff_eq.mpr c11
        clear c11
        by_cases c12 : ((rd_T49 l1 x25_2).f1) = a3
        ·rw [if_pos c12] at H
         have c12b0 : (((rd_T49 l1 x25_2).f1) == a3) = true := beq_iff_eq.mpr c12
         have c12b1 : (((rd_T49 l1 x25_2).f1) != a3) = false := bne_eq_false_iff_eq.mpr c12
         clear c12
         obtain rfl := Option.some.inj H
         have p197 : 0 ≤ (x25_2 : Int) := odt_
         have q197 : x25_2 < (l1.length : Int) := odt_
         obtain ⟨ad197, e197, hx197_0, hx197_1⟩ := at_T49 HR1.out x25_2 p197 q197
         cases e197
         (first | replace hx197_0 := (HB.out.cell (World.block_lt_of_cell? w _ hx197_0)).trans hx197_0 | skip)
         (first | replace hx197_1 := (HB.out.cell (World.block_lt_of_cell? w _ hx197_1)).trans hx197_1 | skip)
         replace p197 := eq_true p197
         replace q197 := eq_true q197
         go_wp2_with (first | ((with_reducible refine gate_dst (N := 10) rfl ?_); refine bxe_ 10 #[.int .i64 0, .int .i64 0] 49 ?_; intro gb198 hg w13 hbox hb; have BK198 := Aside0.mk (hbox); have GW198 := gz_ w hg; have GE198 := gz_ w hg; replace HB := Aside0.mk (below_step blw_ hb); clear hb hbox hg; have hcz14_0 := blc_ (.int .i64 0) BK198 0; have hcz14_1 := blc_ (.int .i64 0) BK198 1; have hfz14_0 := blk_frozen BK198.out 0; have hfz14_1 := blk_frozen BK198.out 1))
         go_ret
         exact er_
        ·rw [if_neg c12] at H
         have c12b0 : (((rd_T49 l1 x25_2).f1) == a3) = false := beq_eq_false_iff_ne.mpr c12
         have c12b1 : (((rd_T49 l1 x25_2).f1) != a3) = true := bne_iff_ne.mpr c12
         have H' := Aside0.mk H
         clear H
         have p197 : 0 ≤ (x25_2 : Int) := odt_
         have q197 : x25_2 < (l1.length : Int) := odt_
         obtain ⟨ad197, e197, hx197_0, hx197_1⟩ := at_T49 HR1.out x25_2 p197 q197
         cases e197
         (first | replace hx197_0 := (HB.out.cell (World.block_lt_of_cell? w _ hx197_0)).trans hx197_0 | skip)
         (first | replace hx197_1 := (HB.out.cell (World.block_lt_of_cell? w _ hx197_1)).trans hx197_1 | skip)
         replace p197 := eq_true p197
         replace q197 := eq_true q197
         go_wp2_with (first | ((with_reducible refine gate_dst (N := 10) rfl ?_); refine bxe_ 10 #[.int .i64 0, .int .i64 0] 49 ?_; intro gb198 hg w15 hbox hb; have BK198 := Aside0.mk (hbox); have GW198 := gz_ w hg; have GE198 := gz_ w hg; replace HB := Aside0.mk (below_step blw_ hb); clear hb hbox hg; have hcz16_0 := blc_ (.int .i64 0) BK198 0; have hcz16_1 := blc_ (.int .i64 0) BK198 1; have hfz16_0 := blk_frozen BK198.out 0; have hfz16_1 := blk_frozen BK198.out 1))
         go_roundg k2
         case measure => have := HJ4.out; have := HK2.out; omega
         case rel => exact ⟨(wrap64 (x25_2 + 1)), rsd_, H', ⟨by have := HJ4.out; have := HK2.out; omega⟩, ⟨bls_⟩⟩
       ·rw [if_neg c11] at H
        have c11b0 : (((rd_T49 l1 x25_2).f0) == a2) = false := beq_eq_false_iff_ne.mpr c11
        have c11b1 : (((rd_T49 l1 x25_2).f0) != a2) = true := bne_iff_ne.mpr c11
        have H' := Aside0.mk H
        clear H
        have p197 : 0 ≤ (x25_2 : Int) := odt_
        have q197 : x25_2 < (l1.length : Int) := odt_
        obtain ⟨ad197, e197, hx197_0, hx197_1⟩ := at_T49 HR1.out x25_2 p197 q197
        cases e197
        (first | replace hx197_0 := (HB.out.cell (World.block_lt_of_cell? w _ hx197_0)).trans hx197_0 | skip)
        (first | replace hx197_1 := (HB.out.cell (World.block_lt_of_cell? w _ hx197_1)).trans hx197_1 | skip)
        replace p197 := eq_true p197
        replace q197 := eq_true q197
        go_wp2_with (first | ((with_reducible refine gate_dst (N := 10) rfl ?_); refine bxe_ 10 #[.int .i64 0, .int .i64 0] 49 ?_; intro gb198 hg w17 hbox hb; have BK198 := Aside0.mk (hbox); have GW198 := gz_ w hg; have GE198 := gz_ w hg; replace HB := Aside0.mk (below_step blw_ hb); clear hb hbox hg; have hcz18_0 := blc_ (.int .i64 0) BK198 0; have hcz18_1 := blc_ (.int .i64 0) BK198 1; have hfz18_0 := blk_frozen BK198.out 0; have hfz18_1 := blk_frozen BK198.out 1))
        go_roundg k2
        case measure => have := HJ4.out; have := HK2.out; omega
        case rel => exact ⟨(wrap64 (x25_2 + 1)), rsd_, H', ⟨by have := HJ4.out; have := HK2.out; omega⟩, ⟨bls_⟩⟩
      ·rw [if_neg c8] at H
       have c8b0 : decide (x25_2 < (l1.length : Int)) = false := decide_eq_false c8
       clear c8
       obtain rfl := Option.some.inj H
       go_wp2
       go_ret
       exact er_

/-! ### spec_flOther: function 53 -/
mutual
def spec_flOther.l0 : Nat → Int → List (S49) → Int → Int → Int → Int → Int → Option (Int × Int)
 | 0, _, _, _, _, _, _, _ => none
 | k + 1, x0, x1, x8, x200000, x200001, x202000, x202001 => if x8 < x0 then (if x8 = x200000 then (spec_flOther.j1 k x0 x1 x8 true x200000 x200001 x202000 x202001) else (spec_flOther.j1 k x0 x1 x8 (x8 == x200001) x200000 x200001 x202000 x202001)) else (some (x202000, x202001))
def spec_flOther.j1 : Nat → Int → List (S49) → Int → Bool → Int → Int → Int → Int → Option (Int × Int)
 | 0, _, _, _, _, _, _, _, _ => none
 | k + 1, x0, x1, x8, x28, x200000, x200001, x202000, x202001 => if x28 = true then (spec_flOther.l0 k x0 x1 (wrap64 (x8 + 1)) x200000 x200001 x202000 x202001) else ((spec_l1Least.f x8 x200000).bind fun t202 => ((spec_l1Most.f x8 x200000).bind fun t203 => ((spec_l1Least.f x8 x200001).bind fun t204 => ((spec_l1Most.f x8 x200001).bind fun t205 => ((spec_poJoined.f k x0 x1 t202 t203).bind fun t206 => (if t206 = true then ((spec_poJoined.f k x0 x1 t204 t205).bind fun t207 => (spec_flOther.j2 k x0 x1 x8 (!t207) x200000 x200001 x202000 x202001)) else (spec_flOther.j2 k x0 x1 x8 true x200000 x200001 x202000 x202001)))))))
def spec_flOther.j2 : Nat → Int → List (S49) → Int → Bool → Int → Int → Int → Int → Option (Int × Int)
 | 0, _, _, _, _, _, _, _, _ => none
 | k + 1, x0, x1, x8, x58, x200000, x200001, x202000, x202001 => if x58 = true then (spec_flOther.l0 k x0 x1 (wrap64 (x8 + 1)) x200000 x200001 x202000 x202001) else (if x202000 < 0 then (spec_flOther.l0 k x0 x1 (wrap64 (x8 + 1)) x200000 x200001 x8 x202001) else (spec_flOther.l0 k x0 x1 (wrap64 (x8 + 1)) x200000 x200001 x202000 x8))
end
def spec_flOther.f (k : Nat) (a0 : Int) (l1 : List (S49)) (a2_0 : Int) (a2_1 : Int) : Option (Int × Int) := spec_flOther.l0 k a0 l1 0 a2_0 a2_1 (-1) (-1)
theorem spec_flOther.mono_l : ∀ k, (∀ y0 y1 y2 y3 y4 y5 y6, LeO (spec_flOther.l0 k y0 y1 y2 y3 y4 y5 y6) (spec_flOther.l0 (k + 1) y0 y1 y2 y3 y4 y5 y6)) ∧ (∀ y0 y1 y2 y3 y4 y5 y6 y7, LeO (spec_flOther.j1 k y0 y1 y2 y3 y4 y5 y6 y7) (spec_flOther.j1 (k + 1) y0 y1 y2 y3 y4 y5 y6 y7)) ∧ (∀ y0 y1 y2 y3 y4 y5 y6 y7, LeO (spec_flOther.j2 k y0 y1 y2 y3 y4 y5 y6 y7) (spec_flOther.j2 (k + 1) y0 y1 y2 y3 y4 y5 y6 y7))
 | 0 => ⟨fun _ _ _ _ _ _ _ r h => by simp [spec_flOther.l0] at h, fun _ _ _ _ _ _ _ _ r h => by simp [spec_flOther.j1] at h, fun _ _ _ _ _ _ _ _ r h => by simp [spec_flOther.j2] at h⟩
 | k + 1 => by
  obtain ⟨ih0, ih1, ih2⟩ := spec_flOther.mono_l k
  refine ⟨?_, ?_, ?_⟩
  ·intro y0 y1 y2 y3 y4 y5 y6
   unfold spec_flOther.l0
   repeat' first
   | (with_reducible exact ih0 _ _ _ _ _ _ _)
   | (with_reducible exact ih1 _ _ _ _ _ _ _ _)
   | (with_reducible exact ih2 _ _ _ _ _ _ _ _)
   | (with_reducible exact spec_poJoined.mono _ _ _ _ _)
   | (with_reducible exact LeO.refl _)
   | (with_reducible exact LeO.none _)
   | (with_reducible refine LeO.ite ?_ ?_)
   | (with_reducible refine LeO.bind ?_ (fun _ => ?_))
   | exact ih0 _ _ _ _ _ _ _
   | exact ih1 _ _ _ _ _ _ _ _
   | exact ih2 _ _ _ _ _ _ _ _
   | exact spec_poJoined.mono _ _ _ _ _
   | exact LeO.none _
   | refine LeO.ite ?_ ?_
   | refine LeO.bind ?_ (fun _ => ?_)
  ·intro y0 y1 y2 y3 y4 y5 y6 y7
   unfold spec_flOther.j1
   repeat' first
   | (with_reducible exact ih0 _ _ _ _ _ _ _)
   | (with_reducible exact ih1 _ _ _ _ _ _ _ _)
   | (with_reducible exact ih2 _ _ _ _ _ _ _ _)
   | (with_reducible exact spec_poJoined.mono _ _ _ _ _)
   | (with_reducible exact LeO.refl _)
   | (with_reducible exact LeO.none _)
   | (with_reducible refine LeO.ite ?_ ?_)
   | (with_reducible refine LeO.bind ?_ (fun _ => ?_))
   | exact ih0 _ _ _ _ _ _ _
   | exact ih1 _ _ _ _ _ _ _ _
   | exact ih2 _ _ _ _ _ _ _ _
   | exact spec_poJoined.mono _ _ _ _ _
   | exact LeO.none _
   | refine LeO.ite ?_ ?_
   | refine LeO.bind ?_ (fun _ => ?_)
  ·intro y0 y1 y2 y3 y4 y5 y6 y7
   unfold spec_flOther.j2
   repeat' first
   | (with_reducible exact ih0 _ _ _ _ _ _ _)
   | (with_reducible exact ih1 _ _ _ _ _ _ _ _)
   | (with_reducible exact ih2 _ _ _ _ _ _ _ _)
   | (with_reducible exact spec_poJoined.mono _ _ _ _ _)
   | (with_reducible exact LeO.refl _)
   | (with_reducible exact LeO.none _)
   | (with_reducible refine LeO.ite ?_ ?_)
   | (with_reducible refine LeO.bind ?_ (fun _ => ?_))
   | exact ih0 _ _ _ _ _ _ _
   | exact ih1 _ _ _ _ _ _ _ _
   | exact ih2 _ _ _ _ _ _ _ _
   | exact spec_poJoined.mono _ _ _ _ _
   | exact LeO.none _
   | refine LeO.ite ?_ ?_
   | refine LeO.bind ?_ (fun _ => ?_)
theorem spec_flOther.mono : ∀ a0 a1 a2 a3 k, LeO (spec_flOther.f k a0 a1 a2 a3) (spec_flOther.f (k + 1) a0 a1 a2 a3) := by
 intro a0 a1 a2 a3 k
 obtain ⟨ih0, ih1, ih2⟩ := spec_flOther.mono_l k
 unfold spec_flOther.f
 repeat' first
   | (with_reducible exact ih0 _ _ _ _ _ _ _)
   | (with_reducible exact ih1 _ _ _ _ _ _ _ _)
   | (with_reducible exact ih2 _ _ _ _ _ _ _ _)
   | (with_reducible exact spec_poJoined.mono _ _ _ _ _)
   | (with_reducible exact LeO.refl _)
   | (with_reducible exact LeO.none _)
   | (with_reducible refine LeO.ite ?_ ?_)
   | (with_reducible refine LeO.bind ?_ (fun _ => ?_))
   | exact ih0 _ _ _ _ _ _ _
   | exact ih1 _ _ _ _ _ _ _ _
   | exact ih2 _ _ _ _ _ _ _ _
   | exact spec_poJoined.mono _ _ _ _ _
   | exact LeO.none _
   | refine LeO.ite ?_ ?_
   | refine LeO.bind ?_ (fun _ => ?_)
set_option maxHeartbeats 8000000 in
set_option maxRecDepth 100000 in
theorem spec_flOther.calls (k : Nat) (a0 : Int) (A1 : Option Addr) (c1 : Nat) (l1 : List (S49)) (a2_0 : Int) (a2_1 : Int) (r1 : Int) (r2 : Int) (w : World) (hr1 : Kd.C k49 w A1 l1.length l1) (hc1 : l1.length ≤ c1) (h : spec_flOther.f k a0 l1 a2_0 a2_1 = some (r1, r2)) :
  Calls Tryd.prog 53 #[.int .i64 a0, .slice A1 l1.length c1, .agg #[.int .i64 a2_0, .int .i64 a2_1]] w fun e w' => e = .returned (.agg #[.int .i64 r1, .int .i64 r2]) ∧ Below w.heap.size w w' := by
 have hu49 := Tryd.underlying49
 have HR1 := Aside0.mk hr1
 have HC1 := Aside0.mk hc1
 clear hr1 hc1
 have HB := Aside0.mk (Below.refl w.heap.size w)
 have H : (spec_flOther.l0 k a0 l1 0 a2_0 a2_1 (-1) (-1)) = some (r1, r2) := h
 clear h
 have H' := Aside0.mk H
 clear H
 go_enter Tryd.func53, Tryd.ntmps53
 go_wp2_with (first | ((with_reducible refine gate_dst (N := 5) rfl ?_); refine bxe_ 5 #[.int .i64 a2_0, .int .i64 a2_1] 49 ?_; intro gb199 hg w4 hbox hb; have BK199 := Aside0.mk (hbox); have GW199 := gz_ w hg; have GE199 := gz_ w hg; replace HB := Aside0.mk (below_step blw_ hb); clear hb hbox hg) | ((with_reducible refine gate_dst (N := 6) rfl ?_); refine bxe_ 6 #[.int .i64 0, .int .i64 0] 49 ?_; intro gb200 hg w5 hbox hb; have BK200 := Aside0.mk (hbox); have GW200 := gz_ w hg; have GE200 := gz_ w hg; have NB199_200 := nb_ BK199 hg; have NB200_199 := nbr_ BK199 hg; replace BK199 := bb_ BK199 hb; replace HB := Aside0.mk (below_step bls_ hb); clear hb hbox hg) | ((with_reducible refine gate_dst (N := 7) rfl ?_); refine bxe_ 7 #[.int .i64 0, .int .i64 0] 49 ?_; intro gb201 hg w6 hbox hb; have BK201 := Aside0.mk (hbox); have GW201 := gz_ w hg; have GE201 := gz_ w hg; have NB199_201 := nb_ BK199 hg; have NB201_199 := nbr_ BK199 hg; have NB200_201 := nb_ BK200 hg; have NB201_200 := nbr_ BK200 hg; replace BK199 := bb_ BK199 hb; replace BK200 := bb_ BK200 hb; replace HB := Aside0.mk (below_step bls_ hb); clear hb hbox hg; have hnb7 := NB201_199.out; have hnc7 := NB199_201.out; have hnb8 := NB201_200.out; have hnc8 := NB200_201.out; have hcz9_0 := blc_ (.int .i64 0) BK201 0; have hcz9_1 := blc_ (.int .i64 0) BK201 1; have hfz9_0 := blk_frozen BK201.out 0; have hfz9_1 := blk_frozen BK201.out 1))
 repeat (go_quiet (first | ((with_reducible refine gate_dst (N := 5) rfl ?_); refine bxe_ 5 #[.int .i64 a2_0, .int .i64 a2_1] 49 ?_; intro gb199 hg w4 hbox hb; have BK199 := Aside0.mk (hbox); have GW199 := gz_ w hg; have GE199 := gz_ w hg; replace HB := Aside0.mk (below_step blw_ hb); clear hb hbox hg) | ((with_reducible refine gate_dst (N := 6) rfl ?_); refine bxe_ 6 #[.int .i64 0, .int .i64 0] 49 ?_; intro gb200 hg w5 hbox hb; have BK200 := Aside0.mk (hbox); have GW200 := gz_ w hg; have GE200 := gz_ w hg; have NB199_200 := nb_ BK199 hg; have NB200_199 := nbr_ BK199 hg; replace BK199 := bb_ BK199 hb; replace HB := Aside0.mk (below_step bls_ hb); clear hb hbox hg) | ((with_reducible refine gate_dst (N := 7) rfl ?_); refine bxe_ 7 #[.int .i64 0, .int .i64 0] 49 ?_; intro gb201 hg w6 hbox hb; have BK201 := Aside0.mk (hbox); have GW201 := gz_ w hg; have GE201 := gz_ w hg; have NB199_201 := nb_ BK199 hg; have NB201_199 := nbr_ BK199 hg; have NB200_201 := nb_ BK200 hg; have NB201_200 := nbr_ BK200 hg; replace BK199 := bb_ BK199 hb; replace BK200 := bb_ BK200 hb; replace HB := Aside0.mk (below_step bls_ hb); clear hb hbox hg; have hnb7 := NB201_199.out; have hnc7 := NB199_201.out; have hnb8 := NB201_200.out; have hnc8 := NB200_201.out; have hcz9_0 := blc_ (.int .i64 0) BK201 0; have hcz9_1 := blc_ (.int .i64 0) BK201 1; have hfz9_0 := blk_frozen BK201.out 0; have hfz9_1 := blk_frozen BK201.out 1)); try go_wp2_with (first | ((with_reducible refine gate_dst (N := 5) rfl ?_); refine bxe_ 5 #[.int .i64 a2_0, .int .i64 a2_1] 49 ?_; intro gb199 hg w4 hbox hb; have BK199 := Aside0.mk (hbox); have GW199 := gz_ w hg; have GE199 := gz_ w hg; replace HB := Aside0.mk (below_step blw_ hb); clear hb hbox hg) | ((with_reducible refine gate_dst (N := 6) rfl ?_); refine bxe_ 6 #[.int .i64 0, .int .i64 0] 49 ?_; intro gb200 hg w5 hbox hb; have BK200 := Aside0.mk (hbox); have GW200 := gz_ w hg; have GE200 := gz_ w hg; have NB199_200 := nb_ BK199 hg; have NB200_199 := nbr_ BK199 hg; replace BK199 := bb_ BK199 hb; replace HB := Aside0.mk (below_step bls_ hb); clear hb hbox hg) | ((with_reducible refine gate_dst (N := 7) rfl ?_); refine bxe_ 7 #[.int .i64 0, .int .i64 0] 49 ?_; intro gb201 hg w6 hbox hb; have BK201 := Aside0.mk (hbox); have GW201 := gz_ w hg; have GE201 := gz_ w hg; have NB199_201 := nb_ BK199 hg; have NB201_199 := nbr_ BK199 hg; have NB200_201 := nb_ BK200 hg; have NB201_200 := nbr_ BK200 hg; replace BK199 := bb_ BK199 hb; replace BK200 := bb_ BK200 hb; replace HB := Aside0.mk (below_step bls_ hb); clear hb hbox hg; have hnb7 := NB201_199.out; have hnc7 := NB199_201.out; have hnb8 := NB201_200.out; have hnc8 := NB200_201.out; have hcz9_0 := blc_ (.int .i64 0) BK201 0; have hcz9_1 := blc_ (.int .i64 0) BK201 1; have hfz9_0 := blk_frozen BK201.out 0; have hfz9_1 := blk_frozen BK201.out 1)))
 go_loopg [8] k (fun kq v8 w' => ∃ (x8_1 : Int) (x202000_1 : Int) (x202001_1 : Int), v8 = .int .i64 x8_1 ∧ Aside0 (spec_flOther.l0 kq a0 l1 x8_1 a2_0 a2_1 x202000_1 x202001_1 = some (r1, r2)) ∧ Aside0 (kq ≤ k) ∧ Aside0 (w'.heap[gb199]? = some (.cells #[.int .i64 a2_0, .int .i64 a2_1] 49 (0, 0))) ∧ Aside0 (w'.heap[gb200]? = some (.cells #[.int .i64 0, .int .i64 0] 49 (0, 0))) ∧ Aside0 (w'.heap[gb201]? = some (.cells #[.int .i64 x202000_1, .int .i64 x202001_1] 49 (0, 0))) ∧ Aside0 (Below w.heap.size w w'))
 case atStart => exact ⟨(0), ((-1)), ((-1)), rsd_, H', ⟨Nat.le_refl _⟩, ⟨by (with_reducible repeat (first | refine blk_drewN ?_ _ | refine blk_drew ?_ | refine blk_alloc ?_ _)); refine blk_far ?_ NB199_201.out _; (with_reducible repeat (first | refine blk_drewN ?_ _ | refine blk_drew ?_ | refine blk_alloc ?_ _)); refine blk_far ?_ NB199_201.out _; (with_reducible repeat (first | refine blk_drewN ?_ _ | refine blk_drew ?_ | refine blk_alloc ?_ _)); exact BK199.out⟩, ⟨by (with_reducible repeat (first | refine blk_drewN ?_ _ | refine blk_drew ?_ | refine blk_alloc ?_ _)); refine blk_far ?_ NB200_201.out _; (with_reducible repeat (first | refine blk_drewN ?_ _ | refine blk_drew ?_ | refine blk_alloc ?_ _)); refine blk_far ?_ NB200_201.out _; (with_reducible repeat (first | refine blk_drewN ?_ _ | refine blk_drew ?_ | refine blk_alloc ?_ _)); exact BK200.out⟩, ⟨by (with_reducible repeat (first | refine blk_drewN ?_ _ | refine blk_drew ?_ | refine blk_alloc ?_ _)); refine blk_put (cs := #[.int .i64 (-1), .int .i64 0]) ?_ 1 _ rfl; (with_reducible repeat (first | refine blk_drewN ?_ _ | refine blk_drew ?_ | refine blk_alloc ?_ _)); refine blk_put (cs := #[.int .i64 0, .int .i64 0]) ?_ 0 _ rfl; (with_reducible repeat (first | refine blk_drewN ?_ _ | refine blk_drew ?_ | refine blk_alloc ?_ _)); exact BK201.out⟩, ⟨bls_⟩⟩
 case round =>
  clear H'
  try clear c1
  try clear p2
  try clear c5
  try clear c7
  try clear c8
  try clear hcz9_0
  try clear hcz9_1
  try clear hfz9_0
  try clear hfz9_1
  obtain ⟨x8_1, x202000_1, x202001_1, rfl, HA, HK1, BK199, BK200, BK201, HB⟩ := hrel
  cases gk with
  | zero => exact absurd HA.out (by simp [spec_flOther.l0])
  | succ k1 =>
   have H := HA.out
   clear HA
   simp only [spec_flOther.l0] at H
   by_cases c10 : x8_1 < a0
   ·rw [if_pos c10] at H
    have c10b0 : decide (x8_1 < a0) = true := decide_eq_true c10
    clear c10
    have HC11 := Aside0.mk H
    clear H
    go_upto_region 5 with (fail)
    repeat (go_quiet (fail); go_upto_region 5 with (fail))
    go_cut [28] (fun v28 wc => ∃ (kq : Nat) (x28_10 : Bool), v28 = .bool x28_10 ∧ Aside0 (spec_flOther.j1 kq a0 l1 x8_1 x28_10 a2_0 a2_1 x202000_1 x202001_1 = some (r1, r2)) ∧ Aside0 (kq ≤ k1) ∧ Aside0 (wc.heap[gb199]? = some (.cells #[.int .i64 a2_0, .int .i64 a2_1] 49 (0, 0))) ∧ Aside0 (wc.heap[gb200]? = some (.cells #[.int .i64 0, .int .i64 0] 49 (0, 0))) ∧ Aside0 (wc.heap[gb201]? = some (.cells #[.int .i64 x202000_1, .int .i64 x202001_1] 49 (0, 0))) ∧ Aside0 (Below w.heap.size w wc))
    case first =>
     have H := HC11.out
     clear HC11
     by_cases c12 : x8_1 = a2_0
     ·rw [if_pos c12] at H
      have c12b0 : (x8_1 == a2_0) = true := beq_iff_eq.mpr c12
      have c12b1 : (x8_1 != a2_0) = false := bne_eq_false_iff_eq.mpr c12
      clear c12
      (first | rw [c12b0] | (simp only [i64_w, i32_w]; rw [c12b0]) | skip)
      have H' := Aside0.mk H
      clear H
      have hnb13 := NB199_200.out
      have hnc13 := NB200_199.out
      have hnb14 := NB199_201.out
      have hnc14 := NB201_199.out
      have hcz15_0 := blc_ (.int .i64 a2_0) BK199 0
      have hcz15_1 := blc_ (.int .i64 a2_1) BK199 1
      have hfz15_0 := blk_frozen BK199.out 0
      have hfz15_1 := blk_frozen BK199.out 1
      go_wp2
      repeat (go_quiet (fail); try go_wp2)
      go_meet
      case rel => exact ⟨_, (true), rsd_, H', ⟨by have := HK1.out; first | omega | exact Nat.le_refl _⟩, ⟨bk_ BK199.out⟩, ⟨bk_ BK200.out⟩, ⟨bk_ BK201.out⟩, ⟨bls_⟩⟩
     ·rw [if_neg c12] at H
      have c12b0 : (x8_1 == a2_0) = false := beq_eq_false_iff_ne.mpr c12
      have c12b1 : (x8_1 != a2_0) = true := bne_iff_ne.mpr c12
      (first | rw [c12b0] | (simp only [i64_w, i32_w]; rw [c12b0]) | skip)
      have H' := Aside0.mk H
      clear H
      have hnb16 := NB199_200.out
      have hnc16 := NB200_199.out
      have hnb17 := NB199_201.out
      have hnc17 := NB201_199.out
      have hcz18_0 := blc_ (.int .i64 a2_0) BK199 0
      have hcz18_1 := blc_ (.int .i64 a2_1) BK199 1
      have hfz18_0 := blk_frozen BK199.out 0
      have hfz18_1 := blk_frozen BK199.out 1
      go_wp2
      repeat (go_quiet (fail); try go_wp2)
      go_meet
      case rel => exact ⟨_, ((x8_1 == a2_1)), rsd_, H', ⟨by have := HK1.out; first | omega | exact Nat.le_refl _⟩, ⟨bk_ BK199.out⟩, ⟨bk_ BK200.out⟩, ⟨bk_ BK201.out⟩, ⟨bls_⟩⟩
    case rest =>
     clear HC11
     try clear c1
     try clear p2
     try clear c5
     try clear c7
     try clear c8
     try clear c10
     try clear c10b0
     try clear c12
     try clear c12b0
     try clear c12b1
     try clear c13
     try clear c14
     try clear c16
     try clear c17
     try clear hcz15_0
     try clear hcz15_1
     try clear hcz18_0
     try clear hcz18_1
     try clear hcz9_0
     try clear hcz9_1
     try clear hfz15_0
     try clear hfz15_1
     try clear hfz18_0
     try clear hfz18_1
     try clear hfz9_0
     try clear hfz9_1
     try clear p2
     obtain ⟨kq, x28_10, rfl, HA, HJ10, BK199, BK200, BK201, HB⟩ := hcut
     cases kq with
     | zero => exact absurd HA.out (by simp [spec_flOther.j1])
     | succ kj10 =>
      have H := HA.out
      clear HA
      simp only [spec_flOther.j1] at H
      by_cases c19 : x28_10 = true
      ·subst c19
       replace H : (spec_flOther.l0 kj10 a0 l1 (wrap64 (x8_1 + 1)) a2_0 a2_1 x202000_1 x202001_1) = some (r1, r2) := by rw [if_pos rfl] at H; exact H
       have H' := Aside0.mk H
       clear H
       go_wp2
       repeat (go_quiet (fail); try go_wp2)
       go_roundg kj10
       case measure => have := HK1.out; have := HJ10.out; omega
       case rel => exact ⟨(wrap64 (x8_1 + 1)), (x202000_1), (x202001_1), rsd_, H', ⟨by have := HK1.out; have := HJ10.out; omega⟩, ⟨bk_ BK199.out⟩, ⟨bk_ BK200.out⟩, ⟨bk_ BK201.out⟩, ⟨bls_⟩⟩
      ·replace c19 := Bool.eq_false_iff.mpr c19
       subst c19
       replace H : ((spec_l1Least.f x8_1 a2_0).bind fun t202 => ((spec_l1Most.f x8_1 a2_0).bind fun t203 => ((spec_l1Least.f x8_1 a2_1).bind fun t204 => ((spec_l1Most.f x8_1 a2_1).bind fun t205 => ((spec_poJoined.f kj10 a0 l1 t202 t203).bind fun t206 => (if t206 = true then ((spec_poJoined.f kj10 a0 l1 t204 t205).bind fun t207 => (spec_flOther.j2 kj10 a0 l1 x8_1 (!t207) a2_0 a2_1 x202000_1 x202001_1)) else (spec_flOther.j2 kj10 a0 l1 x8_1 true a2_0 a2_1 x202000_1 x202001_1))))))) = some (r1, r2) := by rw [if_neg (show ¬ (false = true) by decide)] at H; exact H
       replace H := Option.bind_eq_some_iff.mp H
       obtain ⟨t202, A200, H⟩ := H
       replace H : ((spec_l1Most.f x8_1 a2_0).bind fun t203 => ((spec_l1Least.f x8_1 a2_1).bind fun t204 => ((spec_l1Most.f x8_1 a2_1).bind fun t205 => ((spec_poJoined.f kj10 a0 l1 t202 t203).bind fun t206 => (if t206 = true then ((spec_poJoined.f kj10 a0 l1 t204 t205).bind fun t207 => (spec_flOther.j2 kj10 a0 l1 x8_1 (!t207) a2_0 a2_1 x202000_1 x202001_1)) else (spec_flOther.j2 kj10 a0 l1 x8_1 true a2_0 a2_1 x202000_1 x202001_1)))))) = some (r1, r2) := H
       have A20 := Aside0.mk A200
       clear A200
       replace H := Option.bind_eq_some_iff.mp H
       obtain ⟨t203, A210, H⟩ := H
       replace H : ((spec_l1Least.f x8_1 a2_1).bind fun t204 => ((spec_l1Most.f x8_1 a2_1).bind fun t205 => ((spec_poJoined.f kj10 a0 l1 t202 t203).bind fun t206 => (if t206 = true then ((spec_poJoined.f kj10 a0 l1 t204 t205).bind fun t207 => (spec_flOther.j2 kj10 a0 l1 x8_1 (!t207) a2_0 a2_1 x202000_1 x202001_1)) else (spec_flOther.j2 kj10 a0 l1 x8_1 true a2_0 a2_1 x202000_1 x202001_1))))) = some (r1, r2) := H
       have A21 := Aside0.mk A210
       clear A210
       replace H := Option.bind_eq_some_iff.mp H
       obtain ⟨t204, A220, H⟩ := H
       replace H : ((spec_l1Most.f x8_1 a2_1).bind fun t205 => ((spec_poJoined.f kj10 a0 l1 t202 t203).bind fun t206 => (if t206 = true then ((spec_poJoined.f kj10 a0 l1 t204 t205).bind fun t207 => (spec_flOther.j2 kj10 a0 l1 x8_1 (!t207) a2_0 a2_1 x202000_1 x202001_1)) else (spec_flOther.j2 kj10 a0 l1 x8_1 true a2_0 a2_1 x202000_1 x202001_1)))) = some (r1, r2) := H
       have A22 := Aside0.mk A220
       clear A220
       replace H := Option.bind_eq_some_iff.mp H
       obtain ⟨t205, A230, H⟩ := H
       replace H : ((spec_poJoined.f kj10 a0 l1 t202 t203).bind fun t206 => (if t206 = true then ((spec_poJoined.f kj10 a0 l1 t204 t205).bind fun t207 => (spec_flOther.j2 kj10 a0 l1 x8_1 (!t207) a2_0 a2_1 x202000_1 x202001_1)) else (spec_flOther.j2 kj10 a0 l1 x8_1 true a2_0 a2_1 x202000_1 x202001_1))) = some (r1, r2) := H
       have A23 := Aside0.mk A230
       clear A230
       have HC24 := Aside0.mk H
       clear H
       have hnb25 := NB199_200.out
       have hnc25 := NB200_199.out
       have hnb26 := NB199_201.out
       have hnc26 := NB201_199.out
       have hcz27_0 := blc_ (.int .i64 a2_0) BK199 0
       have hcz27_1 := blc_ (.int .i64 a2_1) BK199 1
       have hfz27_0 := blk_frozen BK199.out 0
       have hfz27_1 := blk_frozen BK199.out 1
       go_upto_region 8 with (first | (go_at_call 69; (with_reducible refine (spec_l1Least.calls x8_1 a2_0 t202 _ A20.out).mono ?_); rintro e w' ⟨rfl, ⟨nd, rfl⟩⟩; (try first | exact ⟨rfl, _, World.drewN_drewN _ _ _⟩ | exact ⟨rfl, _, Eq.trans (World.drewN_drewN _ _ _) (congrArg (World.drewN _) (Nat.add_assoc _ _ _))⟩)) | (go_at_call 23; (with_reducible refine (spec_l1Most.calls x8_1 a2_0 t203 _ A21.out).mono ?_); rintro e w' ⟨rfl, ⟨nd, rfl⟩⟩; (try first | exact ⟨rfl, _, World.drewN_drewN _ _ _⟩ | exact ⟨rfl, _, Eq.trans (World.drewN_drewN _ _ _) (congrArg (World.drewN _) (Nat.add_assoc _ _ _))⟩)) | (go_at_call 69; (with_reducible refine (spec_l1Least.calls x8_1 a2_1 t204 _ A22.out).mono ?_); rintro e w' ⟨rfl, ⟨nd, rfl⟩⟩; (try first | exact ⟨rfl, _, World.drewN_drewN _ _ _⟩ | exact ⟨rfl, _, Eq.trans (World.drewN_drewN _ _ _) (congrArg (World.drewN _) (Nat.add_assoc _ _ _))⟩)) | (go_at_call 23; (with_reducible refine (spec_l1Most.calls x8_1 a2_1 t205 _ A23.out).mono ?_); rintro e w' ⟨rfl, ⟨nd, rfl⟩⟩; (try first | exact ⟨rfl, _, World.drewN_drewN _ _ _⟩ | exact ⟨rfl, _, Eq.trans (World.drewN_drewN _ _ _) (congrArg (World.drewN _) (Nat.add_assoc _ _ _))⟩)))
       repeat (go_quiet (first | (go_at_call 69; (with_reducible refine (spec_l1Least.calls x8_1 a2_0 t202 _ A20.out).mono ?_); rintro e w' ⟨rfl, ⟨nd, rfl⟩⟩; (try first | exact ⟨rfl, _, World.drewN_drewN _ _ _⟩ | exact ⟨rfl, _, Eq.trans (World.drewN_drewN _ _ _) (congrArg (World.drewN _) (Nat.add_assoc _ _ _))⟩)) | (go_at_call 23; (with_reducible refine (spec_l1Most.calls x8_1 a2_0 t203 _ A21.out).mono ?_); rintro e w' ⟨rfl, ⟨nd, rfl⟩⟩; (try first | exact ⟨rfl, _, World.drewN_drewN _ _ _⟩ | exact ⟨rfl, _, Eq.trans (World.drewN_drewN _ _ _) (congrArg (World.drewN _) (Nat.add_assoc _ _ _))⟩)) | (go_at_call 69; (with_reducible refine (spec_l1Least.calls x8_1 a2_1 t204 _ A22.out).mono ?_); rintro e w' ⟨rfl, ⟨nd, rfl⟩⟩; (try first | exact ⟨rfl, _, World.drewN_drewN _ _ _⟩ | exact ⟨rfl, _, Eq.trans (World.drewN_drewN _ _ _) (congrArg (World.drewN _) (Nat.add_assoc _ _ _))⟩)) | (go_at_call 23; (with_reducible refine (spec_l1Most.calls x8_1 a2_1 t205 _ A23.out).mono ?_); rintro e w' ⟨rfl, ⟨nd, rfl⟩⟩; (try first | exact ⟨rfl, _, World.drewN_drewN _ _ _⟩ | exact ⟨rfl, _, Eq.trans (World.drewN_drewN _ _ _) (congrArg (World.drewN _) (Nat.add_assoc _ _ _))⟩))); go_upto_region 8 with (first | (go_at_call 69; (with_reducible refine (spec_l1Least.calls x8_1 a2_0 t202 _ A20.out).mono ?_); rintro e w' ⟨rfl, ⟨nd, rfl⟩⟩; (try first | exact ⟨rfl, _, World.drewN_drewN _ _ _⟩ | exact ⟨rfl, _, Eq.trans (World.drewN_drewN _ _ _) (congrArg (World.drewN _) (Nat.add_assoc _ _ _))⟩)) | (go_at_call 23; (with_reducible refine (spec_l1Most.calls x8_1 a2_0 t203 _ A21.out).mono ?_); rintro e w' ⟨rfl, ⟨nd, rfl⟩⟩; (try first | exact ⟨rfl, _, World.drewN_drewN _ _ _⟩ | exact ⟨rfl, _, Eq.trans (World.drewN_drewN _ _ _) (congrArg (World.drewN _) (Nat.add_assoc _ _ _))⟩)) | (go_at_call 69; (with_reducible refine (spec_l1Least.calls x8_1 a2_1 t204 _ A22.out).mono ?_); rintro e w' ⟨rfl, ⟨nd, rfl⟩⟩; (try first | exact ⟨rfl, _, World.drewN_drewN _ _ _⟩ | exact ⟨rfl, _, Eq.trans (World.drewN_drewN _ _ _) (congrArg (World.drewN _) (Nat.add_assoc _ _ _))⟩)) | (go_at_call 23; (with_reducible refine (spec_l1Most.calls x8_1 a2_1 t205 _ A23.out).mono ?_); rintro e w' ⟨rfl, ⟨nd, rfl⟩⟩; (try first | exact ⟨rfl, _, World.drewN_drewN _ _ _⟩ | exact ⟨rfl, _, Eq.trans (World.drewN_drewN _ _ _) (congrArg (World.drewN _) (Nat.add_assoc _ _ _))⟩))))
       (try simp only [Act.put, List.setIfInBounds_toArray, List.set_cons_zero, List.set_cons_succ])
       go_cut [58] (fun v58 wc => ∃ (kq : Nat) (x58_23 : Bool), v58 = .bool x58_23 ∧ Aside0 (spec_flOther.j2 kq a0 l1 x8_1 x58_23 a2_0 a2_1 x202000_1 x202001_1 = some (r1, r2)) ∧ Aside0 (kq ≤ kj10) ∧ Aside0 (wc.heap[gb199]? = some (.cells #[.int .i64 a2_0, .int .i64 a2_1] 49 (0, 0))) ∧ Aside0 (wc.heap[gb200]? = some (.cells #[.int .i64 0, .int .i64 0] 49 (0, 0))) ∧ Aside0 (wc.heap[gb201]? = some (.cells #[.int .i64 x202000_1, .int .i64 x202001_1] 49 (0, 0))) ∧ Aside0 (Below w.heap.size w wc))
       case first =>
        have H := HC24.out
        clear HC24
        replace H := Option.bind_eq_some_iff.mp H
        obtain ⟨t206, A280, H⟩ := H
        replace H : (if t206 = true then ((spec_poJoined.f kj10 a0 l1 t204 t205).bind fun t207 => (spec_flOther.j2 kj10 a0 l1 x8_1 (!t207) a2_0 a2_1 x202000_1 x202001_1)) else (spec_flOther.j2 kj10 a0 l1 x8_1 true a2_0 a2_1 x202000_1 x202001_1)) = some (r1, r2) := H
        have A28 := Aside0.mk A280
        clear A280
        by_cases c29 : t206 = true
        ·subst c29
         replace H : ((spec_poJoined.f kj10 a0 l1 t204 t205).bind fun t207 => (spec_flOther.j2 kj10 a0 l1 x8_1 (!t207) a2_0 a2_1 x202000_1 x202001_1)) = some (r1, r2) := by rw [if_pos rfl] at H; exact H
         replace H := Option.bind_eq_some_iff.mp H
         obtain ⟨t207, A300, H⟩ := H
         replace H : (spec_flOther.j2 kj10 a0 l1 x8_1 (!t207) a2_0 a2_1 x202000_1 x202001_1) = some (r1, r2) := H
         have A30 := Aside0.mk A300
         clear A300
         have H' := Aside0.mk H
         clear H
         go_wp2_with (first | (go_at_call 70; (with_reducible refine (spec_poJoined.calls kj10 a0 _ _ l1 t202 t203 true _ ?side1 ?side2 A28.out).mono ?_); (case side1 => exact cd_ (Kd.C_below HR1.out HB.out)); (case side2 => exact HC1.out); rintro e w31 ⟨rfl, hb⟩; replace BK199 := bb_ BK199 hb; replace BK200 := bb_ BK200 hb; replace BK201 := bb_ BK201 hb; replace HB := Aside0.mk (below_step bls_ hb); (try clear hb); (try clear hb2); (try clear hk); (try clear hi)) | (go_at_call 70; (with_reducible refine (spec_poJoined.calls kj10 a0 _ _ l1 t204 t205 t207 _ ?side1 ?side2 A30.out).mono ?_); (case side1 => exact cd_ (Kd.C_below HR1.out HB.out)); (case side2 => exact HC1.out); rintro e w32 ⟨rfl, hb⟩; replace BK199 := bb_ BK199 hb; replace BK200 := bb_ BK200 hb; replace BK201 := bb_ BK201 hb; replace HB := Aside0.mk (below_step bls_ hb); (try clear hb); (try clear hb2); (try clear hk); (try clear hi)))
         repeat (go_quiet (first | (go_at_call 70; (with_reducible refine (spec_poJoined.calls kj10 a0 _ _ l1 t202 t203 true _ ?side1 ?side2 A28.out).mono ?_); (case side1 => exact cd_ (Kd.C_below HR1.out HB.out)); (case side2 => exact HC1.out); rintro e w31 ⟨rfl, hb⟩; replace BK199 := bb_ BK199 hb; replace BK200 := bb_ BK200 hb; replace BK201 := bb_ BK201 hb; replace HB := Aside0.mk (below_step bls_ hb); (try clear hb); (try clear hb2); (try clear hk); (try clear hi)) | (go_at_call 70; (with_reducible refine (spec_poJoined.calls kj10 a0 _ _ l1 t204 t205 t207 _ ?side1 ?side2 A30.out).mono ?_); (case side1 => exact cd_ (Kd.C_below HR1.out HB.out)); (case side2 => exact HC1.out); rintro e w32 ⟨rfl, hb⟩; replace BK199 := bb_ BK199 hb; replace BK200 := bb_ BK200 hb; replace BK201 := bb_ BK201 hb; replace HB := Aside0.mk (below_step bls_ hb); (try clear hb); (try clear hb2); (try clear hk); (try clear hi))); try go_wp2_with (first | (go_at_call 70; (with_reducible refine (spec_poJoined.calls kj10 a0 _ _ l1 t202 t203 true _ ?side1 ?side2 A28.out).mono ?_); (case side1 => exact cd_ (Kd.C_below HR1.out HB.out)); (case side2 => exact HC1.out); rintro e w31 ⟨rfl, hb⟩; replace BK199 := bb_ BK199 hb; replace BK200 := bb_ BK200 hb; replace BK201 := bb_ BK201 hb; replace HB := Aside0.mk (below_step bls_ hb); (try clear hb); (try clear hb2); (try clear hk); (try clear hi)) | (go_at_call 70; (with_reducible refine (spec_poJoined.calls kj10 a0 _ _ l1 t204 t205 t207 _ ?side1 ?side2 A30.out).mono ?_); (case side1 => exact cd_ (Kd.C_below HR1.out HB.out)); (case side2 => exact HC1.out); rintro e w32 ⟨rfl, hb⟩; replace BK199 := bb_ BK199 hb; replace BK200 := bb_ BK200 hb; replace BK201 := bb_ BK201 hb; replace HB := Aside0.mk (below_step bls_ hb); (try clear hb); (try clear hb2); (try clear hk); (try clear hi))))
         go_meet
         case rel => exact ⟨_, (!t207), rsd_, H', ⟨by have := HK1.out; have := HJ10.out; first | omega | exact Nat.le_refl _⟩, ⟨bk_ BK199.out⟩, ⟨bk_ BK200.out⟩, ⟨bk_ BK201.out⟩, ⟨bls_⟩⟩
        ·replace c29 := Bool.eq_false_iff.mpr c29
         subst c29
         replace H : (spec_flOther.j2 kj10 a0 l1 x8_1 true a2_0 a2_1 x202000_1 x202001_1) = some (r1, r2) := by rw [if_neg (show ¬ (false = true) by decide)] at H; exact H
         have H' := Aside0.mk H
         clear H
         go_wp2_with (first | (go_at_call 70; (with_reducible refine (spec_poJoined.calls kj10 a0 _ _ l1 t202 t203 false _ ?side1 ?side2 A28.out).mono ?_); (case side1 => exact cd_ (Kd.C_below HR1.out HB.out)); (case side2 => exact HC1.out); rintro e w33 ⟨rfl, hb⟩; replace BK199 := bb_ BK199 hb; replace BK200 := bb_ BK200 hb; replace BK201 := bb_ BK201 hb; replace HB := Aside0.mk (below_step bls_ hb); (try clear hb); (try clear hb2); (try clear hk); (try clear hi)))
         repeat (go_quiet (first | (go_at_call 70; (with_reducible refine (spec_poJoined.calls kj10 a0 _ _ l1 t202 t203 false _ ?side1 ?side2 A28.out).mono ?_); (case side1 => exact cd_ (Kd.C_below HR1.out HB.out)); (case side2 => exact HC1.out); rintro e w33 ⟨rfl, hb⟩; replace BK199 := bb_ BK199 hb; replace BK200 := bb_ BK200 hb; replace BK201 := bb_ BK201 hb; replace HB := Aside0.mk (below_step bls_ hb); (try clear hb); (try clear hb2); (try clear hk); (try clear hi))); try go_wp2_with (first | (go_at_call 70; (with_reducible refine (spec_poJoined.calls kj10 a0 _ _ l1 t202 t203 false _ ?side1 ?side2 A28.out).mono ?_); (case side1 => exact cd_ (Kd.C_below HR1.out HB.out)); (case side2 => exact HC1.out); rintro e w33 ⟨rfl, hb⟩; replace BK199 := bb_ BK199 hb; replace BK200 := bb_ BK200 hb; replace BK201 := bb_ BK201 hb; replace HB := Aside0.mk (below_step bls_ hb); (try clear hb); (try clear hb2); (try clear hk); (try clear hi))))
         go_meet
         case rel => exact ⟨_, (true), rsd_, H', ⟨by have := HK1.out; have := HJ10.out; first | omega | exact Nat.le_refl _⟩, ⟨bk_ BK199.out⟩, ⟨bk_ BK200.out⟩, ⟨bk_ BK201.out⟩, ⟨bls_⟩⟩
       case rest =>
        clear HC24
        try clear c1
        try clear c2
        try clear p2
        try clear c5
        try clear p6
        try clear c7
        try clear c8
        try clear c10
        try clear c10b0
        try clear c12
        try clear c12b0
        try clear c12b1
        try clear c13
        try clear c14
        try clear c16
        try clear c17
        try clear c19
        try clear c25
        try clear c26
        try clear c29
        try clear hcz15_0
        try clear hcz15_1
        try clear hcz18_0
        try clear hcz18_1
        try clear hcz27_0
        try clear hcz27_1
        try clear hcz9_0
        try clear hcz9_1
        try clear hfz15_0
        try clear hfz15_1
        try clear hfz18_0
        try clear hfz18_1
        try clear hfz27_0
        try clear hfz27_1
        try clear hfz9_0
        try clear hfz9_1
        try clear p2
        obtain ⟨kq, x58_23, rfl, HA, HJ23, BK199, BK200, BK201, HB⟩ := hcut
        cases kq with
        | zero => exact absurd HA.out (by simp [spec_flOther.j2])
        | succ kj23 =>
         have H := HA.out
         clear HA
         simp only [spec_flOther.j2] at H
         by_cases c34 : x58_23 = true
         ·subst c34
          replace H : (spec_flOther.l0 kj23 a0 l1 (wrap64 (x8_1 + 1)) a2_0 a2_1 x202000_1 x202001_1) = some (r1, r2) := by rw [if_pos rfl] at H; exact H
          have H' := Aside0.mk H
          clear H
          go_wp2
          repeat (go_quiet (fail); try go_wp2)
          go_roundg kj23
          case measure => have := HK1.out; have := HJ10.out; have := HJ23.out; omega
          case rel => exact ⟨(wrap64 (x8_1 + 1)), (x202000_1), (x202001_1), rsd_, H', ⟨by have := HK1.out; have := HJ10.out; have := HJ23.out; omega⟩, ⟨bk_ BK199.out⟩, ⟨bk_ BK200.out⟩, ⟨bk_ BK201.out⟩, ⟨bls_⟩⟩
         ·replace c34 := Bool.eq_false_iff.mpr c34
          subst c34
          replace H : (if x202000_1 < 0 then (spec_flOther.l0 kj23 a0 l1 (wrap64 (x8_1 + 1)) a2_0 a2_1 x8_1 x202001_1) else (spec_flOther.l0 kj23 a0 l1 (wrap64 (x8_1 + 1)) a2_0 a2_1 x202000_1 x8_1)) = some (r1, r2) := by rw [if_neg (show ¬ (false = true) by decide)] at H; exact H
          by_cases c35 : x202000_1 < 0
          ·rw [if_pos c35] at H
           have c35b0 : decide (x202000_1 < 0) = true := decide_eq_true c35
           clear c35
           have H' := Aside0.mk H
           clear H
           have hnb36 := NB201_199.out
           have hnc36 := NB199_201.out
           have hnb37 := NB201_200.out
           have hnc37 := NB200_201.out
           have hcz38_0 := blc_ (.int .i64 x202000_1) BK201 0
           have hcz38_1 := blc_ (.int .i64 x202001_1) BK201 1
           have hfz38_0 := blk_frozen BK201.out 0
           have hfz38_1 := blk_frozen BK201.out 1
           go_wp2
           repeat (go_quiet (fail); try go_wp2)
           go_roundg kj23
           case measure => have := HK1.out; have := HJ10.out; have := HJ23.out; omega
           case rel => exact ⟨(wrap64 (x8_1 + 1)), (x8_1), (x202001_1), rsd_, H', ⟨by have := HK1.out; have := HJ10.out; have := HJ23.out; omega⟩, ⟨by (with_reducible repeat (first | refine blk_drewN ?_ _ | refine blk_drew ?_ | refine blk_alloc ?_ _)); refine blk_far ?_ NB199_201.out _; (with_reducible repeat (first | refine blk_drewN ?_ _ | refine blk_drew ?_ | refine blk_alloc ?_ _)); exact BK199.out⟩, ⟨by (with_reducible repeat (first | refine blk_drewN ?_ _ | refine blk_drew ?_ | refine blk_alloc ?_ _)); refine blk_far ?_ NB200_201.out _; (with_reducible repeat (first | refine blk_drewN ?_ _ | refine blk_drew ?_ | refine blk_alloc ?_ _)); exact BK200.out⟩, ⟨by (with_reducible repeat (first | refine blk_drewN ?_ _ | refine blk_drew ?_ | refine blk_alloc ?_ _)); refine blk_put (cs := #[.int .i64 x202000_1, .int .i64 x202001_1]) ?_ 0 _ rfl; (with_reducible repeat (first | refine blk_drewN ?_ _ | refine blk_drew ?_ | refine blk_alloc ?_ _)); exact BK201.out⟩, ⟨bls_⟩⟩
          ·rw [if_neg c35] at H
           have c35b0 : decide (x202000_1 < 0) = false := decide_eq_false c35
           clear c35
           have H' := Aside0.mk H
           clear H
           have hnb39 := NB201_199.out
           have hnc39 := NB199_201.out
           have hnb40 := NB201_200.out
           have hnc40 := NB200_201.out
           have hcz41_0 := blc_ (.int .i64 x202000_1) BK201 0
           have hcz41_1 := blc_ (.int .i64 x202001_1) BK201 1
           have hfz41_0 := blk_frozen BK201.out 0
           have hfz41_1 := blk_frozen BK201.out 1
           go_wp2
           repeat (go_quiet (fail); try go_wp2)
           go_roundg kj23
           case measure => have := HK1.out; have := HJ10.out; have := HJ23.out; omega
           case rel => exact ⟨(wrap64 (x8_1 + 1)), (x202000_1), (x8_1), rsd_, H', ⟨by have := HK1.out; have := HJ10.out; have := HJ23.out; omega⟩, ⟨by (with_reducible repeat (first | refine blk_drewN ?_ _ | refine blk_drew ?_ | refine blk_alloc ?_ _)); refine blk_far ?_ NB199_201.out _; (with_reducible repeat (first | refine blk_drewN ?_ _ | refine blk_drew ?_ | refine blk_alloc ?_ _)); exact BK199.out⟩, ⟨by (with_reducible repeat (first | refine blk_drewN ?_ _ | refine blk_drew ?_ | refine blk_alloc ?_ _)); refine blk_far ?_ NB200_201.out _; (with_reducible repeat (first | refine blk_drewN ?_ _ | refine blk_drew ?_ | refine blk_alloc ?_ _)); exact BK200.out⟩, ⟨by (with_reducible repeat (first | refine blk_drewN ?_ _ | refine blk_drew ?_ | refine blk_alloc ?_ _)); refine blk_put (cs := #[.int .i64 x202000_1, .int .i64 x202001_1]) ?_ 1 _ rfl; (with_reducible repeat (first | refine blk_drewN ?_ _ | refine blk_drew ?_ | refine blk_alloc ?_ _)); exact BK201.out⟩, ⟨bls_⟩⟩
   ·rw [if_neg c10] at H
    have c10b0 : decide (x8_1 < a0) = false := decide_eq_false c10
    clear c10
    simp only [Option.some.injEq, Prod.mk.injEq] at H
    obtain ⟨rfl, rfl⟩ := H
    have hnb42 := NB201_199.out
    have hnc42 := NB199_201.out
    have hnb43 := NB201_200.out
    have hnc43 := NB200_201.out
    have hcz44_0 := blc_ (.int .i64 x202000_1) BK201 0
    have hcz44_1 := blc_ (.int .i64 x202001_1) BK201 1
    have hfz44_0 := blk_frozen BK201.out 0
    have hfz44_1 := blk_frozen BK201.out 1
    have hnb45 := NB200_199.out
    have hnc45 := NB199_200.out
    have hcz46_0 := blc_ (.int .i64 0) BK200 0
    have hcz46_1 := blc_ (.int .i64 0) BK200 1
    have hfz46_0 := blk_frozen BK200.out 0
    have hfz46_1 := blk_frozen BK200.out 1
    go_wp2
    repeat (go_quiet (fail); try go_wp2)
    refine bodyPost_ret (results_cell_row rfl _ _ gb200 49 #[.int .i64 x202000_1, .int .i64 x202001_1] (0, 0) _ rfl (by (with_reducible repeat (first | refine blk_drewN ?_ _ | refine blk_drew ?_ | refine blk_alloc ?_ _)); refine blk_put (cs := #[.int .i64 x202000_1, .int .i64 0]) ?_ 1 _ rfl; (with_reducible repeat (first | refine blk_drewN ?_ _ | refine blk_drew ?_ | refine blk_alloc ?_ _)); refine blk_put (cs := #[.int .i64 0, .int .i64 0]) ?_ 0 _ rfl; (with_reducible repeat (first | refine blk_drewN ?_ _ | refine blk_drew ?_ | refine blk_alloc ?_ _)); exact BK200.out) Tryd.underlying49 rfl (by kernel_rfl)) rfl ?_
    exact er_

/-! ### spec_flMake: function 34 -/
def spec_flMake.l0 : Nat → Int → List (S49) → List (S49) → List (S49) → Int → Int → Int → Int → Option ((List (S49)))
 | 0, _, _, _, _, _, _, _, _ => none
 | k + 1, x0, x1, x7, x10, x11, x12, x209000, x209001 => if x12 < x11 then (if 0 ≤ x12 then (if x12 < (x10.length : Int) then (if (!(((rd_T49 x10 x12).f0) == x209000) || (!(((rd_T49 x10 x12).f1) == x209001))) = true then (if x7.length < 8796093022208 then (spec_flMake.l0 k x0 x1 (x7 ++ [(⟨(rd_T49 x10 x12).f0, (rd_T49 x10 x12).f1⟩ : S49)]) x10 x11 (wrap64 (x12 + 1)) x209000 x209001) else (none)) else (spec_flMake.l0 k x0 x1 x7 x10 x11 (wrap64 (x12 + 1)) x209000 x209001)) else (none)) else (none)) else ((spec_flOther.f k x0 x1 x209000 x209001).bind fun bt214 => (if x7.length < 8796093022208 then ((spec_poSorted.f k (x7 ++ [(⟨bt214.1, bt214.2⟩ : S49)])).bind fun t219 => (some t219)) else (none)))
def spec_flMake.f (k : Nat) (a0 : Int) (l1 : List (S49)) (a2_0 : Int) (a2_1 : Int) : Option ((List (S49))) := spec_flMake.l0 k a0 l1 ([] : List (S49)) l1 (l1.length : Int) 0 a2_0 a2_1
theorem spec_flMake.mono_l : ∀ k, (∀ y0 y1 y2 y3 y4 y5 y6 y7, LeO (spec_flMake.l0 k y0 y1 y2 y3 y4 y5 y6 y7) (spec_flMake.l0 (k + 1) y0 y1 y2 y3 y4 y5 y6 y7))
 | 0 => fun _ _ _ _ _ _ _ _ r h => by simp [spec_flMake.l0] at h
 | k + 1 => by
  have ih0 := spec_flMake.mono_l k
  ·intro y0 y1 y2 y3 y4 y5 y6 y7
   unfold spec_flMake.l0
   repeat' first
   | (with_reducible exact ih0 _ _ _ _ _ _ _ _)
   | (with_reducible exact spec_flOther.mono _ _ _ _ _)
   | (with_reducible exact spec_poSorted.mono _ _)
   | (with_reducible exact LeO.refl _)
   | (with_reducible exact LeO.none _)
   | (with_reducible refine LeO.ite ?_ ?_)
   | (with_reducible refine LeO.bind ?_ (fun _ => ?_))
   | exact ih0 _ _ _ _ _ _ _ _
   | exact spec_flOther.mono _ _ _ _ _
   | exact spec_poSorted.mono _ _
   | exact LeO.none _
   | refine LeO.ite ?_ ?_
   | refine LeO.bind ?_ (fun _ => ?_)
theorem spec_flMake.mono : ∀ a0 a1 a2 a3 k, LeO (spec_flMake.f k a0 a1 a2 a3) (spec_flMake.f (k + 1) a0 a1 a2 a3) := by
 intro a0 a1 a2 a3 k
 have ih0 := spec_flMake.mono_l k
 unfold spec_flMake.f
 repeat' first
   | (with_reducible exact ih0 _ _ _ _ _ _ _ _)
   | (with_reducible exact spec_flOther.mono _ _ _ _ _)
   | (with_reducible exact spec_poSorted.mono _ _)
   | (with_reducible exact LeO.refl _)
   | (with_reducible exact LeO.none _)
   | (with_reducible refine LeO.ite ?_ ?_)
   | (with_reducible refine LeO.bind ?_ (fun _ => ?_))
   | exact ih0 _ _ _ _ _ _ _ _
   | exact spec_flOther.mono _ _ _ _ _
   | exact spec_poSorted.mono _ _
   | exact LeO.none _
   | refine LeO.ite ?_ ?_
   | refine LeO.bind ?_ (fun _ => ?_)
set_option maxHeartbeats 8000000 in
set_option maxRecDepth 100000 in
theorem spec_flMake.calls (k : Nat) (a0 : Int) (A1 : Option Addr) (c1 : Nat) (l1 : List (S49)) (a2_0 : Int) (a2_1 : Int) (r : List (S49)) (w : World) (hr1 : Kd.C k49 w A1 l1.length l1) (hc1 : l1.length ≤ c1) (h : spec_flMake.f k a0 l1 a2_0 a2_1 = some r) :
  Calls Tryd.prog 34 #[.int .i64 a0, .slice A1 l1.length c1, .agg #[.int .i64 a2_0, .int .i64 a2_1]] w fun e w' => ∃ v0_ : Value, e = .returned (v0_) ∧ Kd.R k49 49 w' w.heap.size (fun _ => True) v0_ r ∧ Below w.heap.size w w' := by
 have hu49 := Tryd.underlying49
 have HR1 := Aside0.mk hr1
 have HC1 := Aside0.mk hc1
 clear hr1 hc1
 have HB := Aside0.mk (Below.refl w.heap.size w)
 have H : (spec_flMake.l0 k a0 l1 ([] : List (S49)) l1 (l1.length : Int) 0 a2_0 a2_1) = some r := h
 clear h
 have H' := Aside0.mk H
 clear H
 go_enter Tryd.func34, Tryd.ntmps34
 go_wp2_with (first | ((with_reducible refine gate_dst (N := 5) rfl ?_); refine bxe_ 5 #[.int .i64 a2_0, .int .i64 a2_1] 49 ?_; intro gb208 hg w4 hbox hb; have BK208 := Aside0.mk (hbox); have GW208 := gz_ w hg; have GE208 := gz_ w hg; replace HB := Aside0.mk (below_step blw_ hb); clear hb hbox hg))
 go_loopg [7, 12] k (fun kq v7 v12 w' => ∃ (x7_1 : List (S49)) (x12_1 : Int), v12 = .int .i64 x12_1 ∧ Aside0 (spec_flMake.l0 kq a0 l1 x7_1 l1 (l1.length : Int) x12_1 a2_0 a2_1 = some r) ∧ Aside0 (kq ≤ k) ∧ Aside0 (Kd.R k49 49 w' w.heap.size (fun k_ => k_ ≠ gb208) v7 x7_1) ∧ Aside0 (w'.heap[gb208]? = some (.cells #[.int .i64 a2_0, .int .i64 a2_1] 49 (0, 0))) ∧ Aside0 (Below w.heap.size w w'))
 case atStart => exact ⟨(([] : List (S49))), (0), rsd_, H', ⟨Nat.le_refl _⟩, ⟨by first | exact Kd.R_nil _ _ _ _ _ | exact Kd.N_nil _ _ _ _ _ | exact Kd.V_nil _ _ _ _ _ | exact Kd.Q_nil _ _ _ _ _ | exact Kd.S_nil _ _ _ _ _⟩, ⟨bk_ BK208.out⟩, ⟨bls_⟩⟩
 case round =>
  clear H'
  try clear c1
  try clear p2
  try clear c3
  try clear HO_7
  obtain ⟨x7_1, x12_1, rfl, HA, HK1, HO_7, BK208, HB⟩ := hrel
  cases gk with
  | zero => exact absurd HA.out (by simp [spec_flMake.l0])
  | succ k1 =>
   have H := HA.out
   clear HA
   simp only [spec_flMake.l0] at H
   by_cases c5 : x12_1 < (l1.length : Int)
   ·rw [if_pos c5] at H
    have c5b0 : decide (x12_1 < (l1.length : Int)) = true := decide_eq_true c5
    clear c5
    by_cases c6 : 0 ≤ x12_1
    case neg=>rw [if_neg c6] at H;exact absurd H (by simp)
    rw [if_pos c6] at H
    have c6b0 : decide (0 ≤ x12_1) = true := decide_eq_true c6
    clear c6
    by_cases c7 : x12_1 < (l1.length : Int)
    case neg=>rw [if_neg c7] at H;exact absurd H (by simp)
    rw [if_pos c7] at H
    have c7b0 : decide (x12_1 < (l1.length : Int)) = true := decide_eq_true c7
    clear c7
    by_cases c8 : (!(((rd_T49 l1 x12_1).f0) == a2_0) || (!(((rd_T49 l1 x12_1).f1) == a2_1))) = true
    ·rw [if_pos c8] at H
     have c8b0 : (!(((rd_T49 l1 x12_1).f0) == a2_0) || (!(((rd_T49 l1 x12_1).f1) == a2_1))) = true := c8
     clear c8
     by_cases c9 : x7_1.length < 8796093022208
     case neg=>rw [if_neg c9] at H;exact absurd H (by simp)
     rw [if_pos c9] at H
     have LMc9 := Aside0.mk c9
     clear c9
     obtain ⟨y211, hy211⟩ : ∃ y_ : List (S49), y_ = (x7_1 ++ [(⟨(rd_T49 l1 x12_1).f0, (rd_T49 l1 x12_1).f1⟩ : S49)]) := ⟨_, rfl⟩
     replace H : (spec_flMake.l0 k1 a0 l1 y211 l1 (l1.length : Int) (wrap64 (x12_1 + 1)) a2_0 a2_1) = some r := hyy_ hy211 H
     have Ny211 := Aside0.mk hy211
     clear hy211
     have H' := Aside0.mk H
     clear H
     have p209 : 0 ≤ (x12_1 : Int) := odt_
     have q209 : x12_1 < (l1.length : Int) := odt_
     obtain ⟨ad209, e209, hx209_0, hx209_1⟩ := at_T49 HR1.out x12_1 p209 q209
     cases e209
     (first | replace hx209_0 := (HB.out.cell (World.block_lt_of_cell? w _ hx209_0)).trans hx209_0 | skip)
     (first | replace hx209_1 := (HB.out.cell (World.block_lt_of_cell? w _ hx209_1)).trans hx209_1 | skip)
     replace p209 := eq_true p209
     replace q209 := eq_true q209
     go_wp2_with (first | ((with_reducible refine gate_dst (N := 9) rfl ?_); refine bxe_ 9 #[.int .i64 0, .int .i64 0] 49 ?_; intro gb210 hg w10 hbox hb; have BK210 := Aside0.mk (hbox); have GW210 := gz_ w hg; have GE210 := gz_ w hg; have NB208_210 := nb_ BK208 hg; have NB210_208 := nbr_ BK208 hg; replace HO_7 := Aside0.mk (Kd.R_below (Kd.R_elderB (ra_ HO_7.out) gb210 (Nat.le_of_eq hg.symm)) hb); replace BK208 := bb_ BK208 hb; replace HB := Aside0.mk (below_step bls_ hb); clear hb hbox hg; have hnb11 := NB210_208.out; have hnc11 := NB208_210.out; have hcz12_0 := blc_ (.int .i64 0) BK210 0; have hcz12_1 := blc_ (.int .i64 0) BK210 1; have hfz12_0 := blk_frozen BK210.out 0; have hfz12_1 := blk_frozen BK210.out 1; have hcz13_0 := blc_ (.int .i64 a2_0) BK208 0; have hcz13_1 := blc_ (.int .i64 a2_1) BK208 1; have hfz13_0 := blk_frozen BK208.out 0; have hfz13_1 := blk_frozen BK208.out 1) | ((with_reducible refine gate_builtin (b := .append) (xs := #[.tmp 19, .tmp 21]) rfl ?_); at_builtin; refine Kd.R_append k49 (w0 := w) w.heap.size rfl (.tmp 19) (.tmp 21) 28 49 (.agg #[(.int .i64 0), (.int .i64 0)]) 16 rfl Tryd.underlying28 info49 rfl (by decide) (by omega) u7 x7_1 (⟨(rd_T49 l1 x12_1).f0, (rd_T49 l1 x12_1).f1⟩ : S49) [.int .i64 ((rd_T49 l1 x12_1).f0), .int .i64 ((rd_T49 l1 x12_1).f1)] (fun k_ => k_ ≠ gb208 ∧ k_ ≠ gb210) (fun _ => False) rfl (by first | (go_simp; done) | (go_simp; rfl)) ?aP (fun _ hk => hk.elim) ?aF ?aO ?aB ?aS ?aL ?_; (case aP => exact k49_mkM _ _ _ (⟨(rd_T49 l1 x12_1).f0, (rd_T49 l1 x12_1).f1⟩ : S49)); (case aB => exact bls_); (case aF => exact (fun k_ hk => ⟨Kd.freshB (g := gb208) (o := .cells #[.int .i64 a2_0, .int .i64 a2_1] 49 (0, 0)) (by (with_reducible repeat (first | refine blk_drewN ?_ _ | refine blk_drew ?_ | refine blk_alloc ?_ _)); refine blk_far ?_ NB208_210.out _; (with_reducible repeat (first | refine blk_drewN ?_ _ | refine blk_drew ?_ | refine blk_alloc ?_ _)); refine blk_far ?_ NB208_210.out _; (with_reducible repeat (first | refine blk_drewN ?_ _ | refine blk_drew ?_ | refine blk_alloc ?_ _)); exact BK208.out) k_ hk, Kd.freshB (g := gb210) (o := .cells #[.int .i64 ((rd_T49 l1 x12_1).f0), .int .i64 ((rd_T49 l1 x12_1).f1)] 49 (0, 0)) (by (with_reducible repeat (first | refine blk_drewN ?_ _ | refine blk_drew ?_ | refine blk_alloc ?_ _)); refine blk_put (cs := #[.int .i64 ((rd_T49 l1 x12_1).f0), .int .i64 0]) ?_ 1 _ rfl; (with_reducible repeat (first | refine blk_drewN ?_ _ | refine blk_drew ?_ | refine blk_alloc ?_ _)); refine blk_put (cs := #[.int .i64 0, .int .i64 0]) ?_ 0 _ rfl; (with_reducible repeat (first | refine blk_drewN ?_ _ | refine blk_drew ?_ | refine blk_alloc ?_ _)); exact BK210.out) k_ hk⟩)); (case aO => exact (by (with_reducible repeat (first | apply Kd.R_alloc | apply Kd.R_drewN | apply Kd.R_drew)); exact Kd.R_mono (Kd.R_far (p := ⟨gb210, 1, none⟩) (Kd.R_far (p := ⟨gb210, 0, none⟩) (Kd.R_mono HO_7.out (fun k_ hk => (⟨hk, hk.2⟩ : _ ∧ k_ ≠ gb210))) (fun _ hk => hk.2) (.int .i64 ((rd_T49 l1 x12_1).f0))) (fun _ hk => hk.2) (.int .i64 ((rd_T49 l1 x12_1).f1))) (fun _ hk => ⟨hk.1.1, hk.1.2⟩))); (case aS => exact (below_size bls_)); (case aL => have := LMc9.out; omega); intro v212 w14 ho hb hg hat; rw [← Ny211.out] at ho; have HO213 := Aside0.mk (ho); replace BK208 := Aside0.mk (blk_grown (g := gb208) (o := .cells #[.int .i64 a2_0, .int .i64 a2_1] 49 (0, 0)) (by (with_reducible repeat (first | refine blk_drewN ?_ _ | refine blk_drew ?_ | refine blk_alloc ?_ _)); refine blk_far ?_ NB208_210.out _; (with_reducible repeat (first | refine blk_drewN ?_ _ | refine blk_drew ?_ | refine blk_alloc ?_ _)); refine blk_far ?_ NB208_210.out _; (with_reducible repeat (first | refine blk_drewN ?_ _ | refine blk_drew ?_ | refine blk_alloc ?_ _)); exact BK208.out) hg (Kd.R_away HO_7.out (fun _ hk => hk.1))); replace BK210 := Aside0.mk (blk_grown (g := gb210) (o := .cells #[.int .i64 ((rd_T49 l1 x12_1).f0), .int .i64 ((rd_T49 l1 x12_1).f1)] 49 (0, 0)) (by (with_reducible repeat (first | refine blk_drewN ?_ _ | refine blk_drew ?_ | refine blk_alloc ?_ _)); refine blk_put (cs := #[.int .i64 ((rd_T49 l1 x12_1).f0), .int .i64 0]) ?_ 1 _ rfl; (with_reducible repeat (first | refine blk_drewN ?_ _ | refine blk_drew ?_ | refine blk_alloc ?_ _)); refine blk_put (cs := #[.int .i64 0, .int .i64 0]) ?_ 0 _ rfl; (with_reducible repeat (first | refine blk_drewN ?_ _ | refine blk_drew ?_ | refine blk_alloc ?_ _)); exact BK210.out) hg (Kd.R_away HO_7.out (fun _ hk => hk.2))); replace HB := Aside0.mk (hb); clear HO_7; clear ho hb hg hat))
     go_roundg k1
     case measure => have := HK1.out; omega
     case rel => exact ⟨(y211), (wrap64 (x12_1 + 1)), rsd_, H', ⟨by have := HK1.out; omega⟩, ⟨by (with_reducible repeat (first | apply Kd.R_alloc | apply Kd.R_drewN | apply Kd.R_drew)); exact Kd.R_mono HO213.out (fun _ hk => hk.1)⟩, ⟨bk_ BK208.out⟩, ⟨bls_⟩⟩
    ·rw [if_neg c8] at H
     have c8b0 : (!(((rd_T49 l1 x12_1).f0) == a2_0) || (!(((rd_T49 l1 x12_1).f1) == a2_1))) = false := by simpa using c8
     clear c8
     have H' := Aside0.mk H
     clear H
     have p209 : 0 ≤ (x12_1 : Int) := odt_
     have q209 : x12_1 < (l1.length : Int) := odt_
     obtain ⟨ad209, e209, hx209_0, hx209_1⟩ := at_T49 HR1.out x12_1 p209 q209
     cases e209
     (first | replace hx209_0 := (HB.out.cell (World.block_lt_of_cell? w _ hx209_0)).trans hx209_0 | skip)
     (first | replace hx209_1 := (HB.out.cell (World.block_lt_of_cell? w _ hx209_1)).trans hx209_1 | skip)
     replace p209 := eq_true p209
     replace q209 := eq_true q209
     go_wp2_with (first | ((with_reducible refine gate_dst (N := 9) rfl ?_); refine bxe_ 9 #[.int .i64 0, .int .i64 0] 49 ?_; intro gb210 hg w15 hbox hb; have BK210 := Aside0.mk (hbox); have GW210 := gz_ w hg; have GE210 := gz_ w hg; have NB208_210 := nb_ BK208 hg; have NB210_208 := nbr_ BK208 hg; replace HO_7 := Aside0.mk (Kd.R_below (Kd.R_elderB (ra_ HO_7.out) gb210 (Nat.le_of_eq hg.symm)) hb); replace BK208 := bb_ BK208 hb; replace HB := Aside0.mk (below_step bls_ hb); clear hb hbox hg; have hnb16 := NB210_208.out; have hnc16 := NB208_210.out; have hcz17_0 := blc_ (.int .i64 0) BK210 0; have hcz17_1 := blc_ (.int .i64 0) BK210 1; have hfz17_0 := blk_frozen BK210.out 0; have hfz17_1 := blk_frozen BK210.out 1; have hcz18_0 := blc_ (.int .i64 a2_0) BK208 0; have hcz18_1 := blc_ (.int .i64 a2_1) BK208 1; have hfz18_0 := blk_frozen BK208.out 0; have hfz18_1 := blk_frozen BK208.out 1))
     go_roundg k1
     case measure => have := HK1.out; omega
     case rel => exact ⟨(x7_1), (wrap64 (x12_1 + 1)), rsd_, H', ⟨by have := HK1.out; omega⟩, ⟨by (with_reducible repeat (first | apply Kd.R_alloc | apply Kd.R_drewN | apply Kd.R_drew)); exact Kd.R_mono (Kd.R_far (p := ⟨gb210, 1, none⟩) (Kd.R_far (p := ⟨gb210, 0, none⟩) (Kd.R_mono HO_7.out (fun k_ hk => (⟨hk, hk.2⟩ : _ ∧ k_ ≠ gb210))) (fun _ hk => hk.2) (.int .i64 ((rd_T49 l1 x12_1).f0))) (fun _ hk => hk.2) (.int .i64 ((rd_T49 l1 x12_1).f1))) (fun _ hk => hk.1.1)⟩, ⟨by (with_reducible repeat (first | refine blk_drewN ?_ _ | refine blk_drew ?_ | refine blk_alloc ?_ _)); refine blk_far ?_ NB208_210.out _; (with_reducible repeat (first | refine blk_drewN ?_ _ | refine blk_drew ?_ | refine blk_alloc ?_ _)); refine blk_far ?_ NB208_210.out _; (with_reducible repeat (first | refine blk_drewN ?_ _ | refine blk_drew ?_ | refine blk_alloc ?_ _)); exact BK208.out⟩, ⟨bls_⟩⟩
   ·rw [if_neg c5] at H
    have c5b0 : decide (x12_1 < (l1.length : Int)) = false := decide_eq_false c5
    clear c5
    replace H := Option.bind_eq_some_iff.mp H
    obtain ⟨⟨t214, t215⟩, A190, H⟩ := H
    replace H : (if x7_1.length < 8796093022208 then ((spec_poSorted.f k1 (x7_1 ++ [(⟨t214, t215⟩ : S49)])).bind fun t219 => (some t219)) else (none)) = some r := H
    have A19 := Aside0.mk A190
    clear A190
    by_cases c20 : x7_1.length < 8796093022208
    case neg=>rw [if_neg c20] at H;exact absurd H (by simp)
    rw [if_pos c20] at H
    have LMc20 := Aside0.mk c20
    clear c20
    obtain ⟨y216, hy216⟩ : ∃ y_ : List (S49), y_ = (x7_1 ++ [(⟨t214, t215⟩ : S49)]) := ⟨_, rfl⟩
    replace H : ((spec_poSorted.f k1 y216).bind fun t219 => (some t219)) = some r := hyy_ hy216 H
    have Ny216 := Aside0.mk hy216
    clear hy216
    replace H := Option.bind_eq_some_iff.mp H
    obtain ⟨t219, A210, H⟩ := H
    replace H : (some t219) = some r := H
    have A21 := Aside0.mk A210
    clear A210
    obtain rfl := Option.some.inj H
    have hcz22_0 := blc_ (.int .i64 a2_0) BK208 0
    have hcz22_1 := blc_ (.int .i64 a2_1) BK208 1
    have hfz22_0 := blk_frozen BK208.out 0
    have hfz22_1 := blk_frozen BK208.out 1
    go_wp2_with (first | ((with_reducible refine gate_callee (f := 53) rfl ?_); refine goesL_ (some 28) rfl rfl Tryd.func53 (by kernel_rfl) rfl #[.int .i64 a0, .slice A1 l1.length c1, .agg #[.int .i64 a2_0, .int .i64 a2_1]] rfl amp_ ?_; (with_reducible refine (spec_flOther.calls k1 a0 _ _ l1 a2_0 a2_1 t214 t215 _ ?side1 ?side2 A19.out).mono ?_); (case side1 => exact cd_ (Kd.C_below HR1.out HB.out)); (case side2 => exact HC1.out); rintro e w23 ⟨rfl, hb⟩; refine ⟨_, rfl, ?_⟩; replace HO_7 := Aside0.mk (Kd.R_below (ra_ HO_7.out) hb); replace BK208 := bb_ BK208 hb; replace HB := Aside0.mk (below_step bls_ hb); (try clear hb); (try clear hb2); (try clear hk); (try clear hi)) | ((with_reducible refine gate_builtin (b := .append) (xs := #[.tmp 24, .tmp 29]) rfl ?_); at_builtin; refine Kd.R_append k49 (w0 := w) w.heap.size rfl (.tmp 24) (.tmp 29) 28 49 (.agg #[(.int .i64 0), (.int .i64 0)]) 16 rfl Tryd.underlying28 info49 rfl (by decide) (by omega) u7 x7_1 (⟨t214, t215⟩ : S49) [.int .i64 t214, .int .i64 t215] (fun k_ => k_ ≠ gb208) (fun _ => False) rfl rfl ?aP (fun _ hk => hk.elim) ?aF ?aO ?aB ?aS ?aL ?_; (case aP => exact k49_mkM _ _ _ (⟨t214, t215⟩ : S49)); (case aB => exact bls_); (case aF => exact (fun k_ hk => Kd.freshB (g := gb208) (o := .cells #[.int .i64 a2_0, .int .i64 a2_1] 49 (0, 0)) (bk_ BK208.out) k_ hk)); (case aO => exact (ra_ HO_7.out)); (case aS => exact (below_size bls_)); (case aL => have := LMc20.out; omega); intro v217 w24 ho hb hg hat; rw [← Ny216.out] at ho; have HO218 := Aside0.mk (ho); replace BK208 := Aside0.mk (blk_grown (g := gb208) (o := .cells #[.int .i64 a2_0, .int .i64 a2_1] 49 (0, 0)) (bk_ BK208.out) hg (Kd.R_away HO_7.out (fun _ hk => hk))); replace HB := Aside0.mk (hb); clear HO_7; clear ho hb hg hat; obtain ⟨Ao25, co25, eo25⟩ := Kd.R_slice HO218.out; subst eo25) | ((with_reducible refine gate_callee (f := 52) rfl ?_); refine goesL_ (some 31) rfl rfl Tryd.func52 (by kernel_rfl) rfl #[.slice Ao25 y216.length co25] rfl amp_ ?_; (with_reducible refine (spec_poSorted.calls k1 _ _ y216 t219 _ ?side1 ?side2 A21.out).mono ?_); (case side1 => exact cd_ (Kd.R_reads' HO218.out).2.2); (case side2 => exact (Kd.R_reads' HO218.out).2.1); rintro e w26 ⟨v220, rfl, ho0, hb⟩; refine ⟨_, rfl, ?_⟩; have HO221 := Aside0.mk (Kd.R_lower (Kd.R_newB (Kd.R_new' ho0 (Kd.R_lt (ra_ HO218.out))) (g := gb208) (o := .cells #[.int .i64 a2_0, .int .i64 a2_1] 49 (0, 0)) (bk_ BK208.out)) (below_size bls_)); replace HO218 := Aside0.mk (Kd.R_elder' (ra_ HO218.out) (Kd.R_base ho0) hb); replace BK208 := bb_ BK208 hb; replace HB := Aside0.mk (below_step bls_ hb); (try clear hb); (try clear hb2); (try clear hk); (try clear hi); (try clear ho0)))
    go_ret
    exact ⟨_, by first | rfl | (simp [errW_none, errW_some] <;> rfl) | (simp [*, errW_none, errW_some] <;> rfl), by (with_reducible repeat (first | apply Kd.R_alloc | apply Kd.R_drewN | apply Kd.R_drew)); exact Kd.R_mono HO221.out (fun _ hk => trivial), bls_⟩

end Go.Proofs.YtgblginphicacaaDoor.PFnExactFarthestByFlips
