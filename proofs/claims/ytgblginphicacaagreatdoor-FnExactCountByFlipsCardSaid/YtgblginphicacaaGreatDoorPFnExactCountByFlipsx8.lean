-- WRITTEN BY A PROGRAM OF THIS WORK (wip/tools/ppatch.py) for this claim.
import Derived.Test.YtgblginphicacaaGreatDoorPFnExactCountByFlipsx0
import Derived.Test.YtgblginphicacaaGreatDoorPFnExactCountByFlipsx1
import Derived.Test.YtgblginphicacaaGreatDoorPFnExactCountByFlipsx7
namespace Go.Proofs.YtgblginphicacaaGreatDoor.PFnExactCountByFlips
open Go.RowKit Go.Proofs.YtgblginphicacaaGreatDoorW.PrintWords Go.Proofs.YtgblginphicacaaGreatDoorW.PrintLast Go.Proofs.YtgblginphicacaaGreatDoorW.PrintMore
attribute [local go_sem] max2_int min2_int max_two min_two max_three min_three max_four min_four   -- for this text's walks alone
set_option linter.unusedVariables false
set_option linter.unusedSimpArgs false

attribute [local go_sem high] eqA38
/-! ### spec_l1Least: function 87 -/
def spec_l1Least.f (a0 : Int) (a1 : Int) : Option (Int) := if a0 < a1 then (some a0) else (some a1)
set_option maxHeartbeats 8000000 in
set_option maxRecDepth 100000 in
theorem spec_l1Least.calls (a0 : Int) (a1 : Int) (r : Int) (w : World) (h : spec_l1Least.f a0 a1 = some r) :
  Calls Tryz.prog 87 #[.int .i64 a0, .int .i64 a1] w fun e w' => e = .returned (.int .i64 r) ∧ Drawn0 w w' := by
 have H : (if a0 < a1 then (some a0) else (some a1)) = some r := h
 clear h
 by_cases c3 : a0 < a1
 ·rw [if_pos c3] at H
  have c3b0 : decide (a0 < a1) = true := decide_eq_true c3
  clear c3
  obtain rfl := Option.some.inj H
  go_enter Tryz.func87, Tryz.ntmps87
  go_wp2
  go_ret
  exact dr_
 ·rw [if_neg c3] at H
  have c3b0 : decide (a0 < a1) = false := decide_eq_false c3
  clear c3
  obtain rfl := Option.some.inj H
  go_enter Tryz.func87, Tryz.ntmps87
  go_wp2
  go_ret
  exact dr_

/-! ### spec_l1Most: function 88 -/
def spec_l1Most.f (a0 : Int) (a1 : Int) : Option (Int) := if a0 > a1 then (some a0) else (some a1)
set_option maxHeartbeats 8000000 in
set_option maxRecDepth 100000 in
theorem spec_l1Most.calls (a0 : Int) (a1 : Int) (r : Int) (w : World) (h : spec_l1Most.f a0 a1 = some r) :
  Calls Tryz.prog 88 #[.int .i64 a0, .int .i64 a1] w fun e w' => e = .returned (.int .i64 r) ∧ Drawn0 w w' := by
 have H : (if a0 > a1 then (some a0) else (some a1)) = some r := h
 clear h
 by_cases c3 : a0 > a1
 ·rw [if_pos c3] at H
  have c3b0 : decide (a1 < a0) = true := decide_eq_true c3
  clear c3
  obtain rfl := Option.some.inj H
  go_enter Tryz.func88, Tryz.ntmps88
  go_wp2
  go_ret
  exact dr_
 ·rw [if_neg c3] at H
  have c3b0 : decide (a1 < a0) = false := decide_eq_false c3
  clear c3
  obtain rfl := Option.some.inj H
  go_enter Tryz.func88, Tryz.ntmps88
  go_wp2
  go_ret
  exact dr_

/-! ### spec_poJoined: function 89 -/
mutual
def spec_poJoined.j0 : Nat → List (S38) → Int → Int → Bool → Option (Bool)
 | 0, _, _, _, _ => none
 | k + 1, x1, x2, x3, x22 => if x22 = true then (some true) else (spec_poJoined.l0 k x2 x3 x1 (x1.length : Int) 0)
def spec_poJoined.l0 : Nat → Int → Int → List (S38) → Int → Int → Option (Bool)
 | 0, _, _, _, _, _ => none
 | k + 1, x2, x3, x23, x24, x25 => if x25 < x24 then (if 0 ≤ x25 then (if x25 < (x23.length : Int) then (if ((rd_T38 x23 x25).f0) = x2 then (if ((rd_T38 x23 x25).f1) = x3 then (some true) else (spec_poJoined.l0 k x2 x3 x23 x24 (wrap64 (x25 + 1)))) else (spec_poJoined.l0 k x2 x3 x23 x24 (wrap64 (x25 + 1)))) else (none)) else (none)) else (some false)
end
def spec_poJoined.f (k : Nat) (a0 : Int) (l1 : List (S38)) (a2 : Int) (a3 : Int) : Option (Bool) := if (wrap64 (a3 - a2)) = 1 then (spec_poJoined.j0 k l1 a2 a3 true) else (spec_poJoined.j0 k l1 a2 a3 ((wrap64 (a3 - a2)) == (wrap64 (a0 - 1))))
theorem spec_poJoined.mono_l : ∀ k, (∀ y0 y1 y2 y3, LeO (spec_poJoined.j0 k y0 y1 y2 y3) (spec_poJoined.j0 (k + 1) y0 y1 y2 y3)) ∧ (∀ y0 y1 y2 y3 y4, LeO (spec_poJoined.l0 k y0 y1 y2 y3 y4) (spec_poJoined.l0 (k + 1) y0 y1 y2 y3 y4))
 | 0 => ⟨fun _ _ _ _ r h => by simp [spec_poJoined.j0] at h, fun _ _ _ _ _ r h => by simp [spec_poJoined.l0] at h⟩
 | k + 1 => by
  obtain ⟨ih0, ih1⟩ := spec_poJoined.mono_l k
  refine ⟨?_, ?_⟩
  ·intro y0 y1 y2 y3
   unfold spec_poJoined.j0
   repeat' first
   | (with_reducible exact ih0 _ _ _ _)
   | (with_reducible exact ih1 _ _ _ _ _)
   | (with_reducible exact LeO.refl _)
   | (with_reducible exact LeO.none _)
   | (with_reducible refine LeO.ite ?_ ?_)
   | (with_reducible refine LeO.bind ?_ (fun _ => ?_))
   | exact ih0 _ _ _ _
   | exact ih1 _ _ _ _ _
   | exact LeO.none _
   | refine LeO.ite ?_ ?_
   | refine LeO.bind ?_ (fun _ => ?_)
  ·intro y0 y1 y2 y3 y4
   unfold spec_poJoined.l0
   repeat' first
   | (with_reducible exact ih0 _ _ _ _)
   | (with_reducible exact ih1 _ _ _ _ _)
   | (with_reducible exact LeO.refl _)
   | (with_reducible exact LeO.none _)
   | (with_reducible refine LeO.ite ?_ ?_)
   | (with_reducible refine LeO.bind ?_ (fun _ => ?_))
   | exact ih0 _ _ _ _
   | exact ih1 _ _ _ _ _
   | exact LeO.none _
   | refine LeO.ite ?_ ?_
   | refine LeO.bind ?_ (fun _ => ?_)
theorem spec_poJoined.mono : ∀ a0 a1 a2 a3 k, LeO (spec_poJoined.f k a0 a1 a2 a3) (spec_poJoined.f (k + 1) a0 a1 a2 a3) := by
 intro a0 a1 a2 a3 k
 obtain ⟨ih0, ih1⟩ := spec_poJoined.mono_l k
 unfold spec_poJoined.f
 repeat' first
   | (with_reducible exact ih0 _ _ _ _)
   | (with_reducible exact ih1 _ _ _ _ _)
   | (with_reducible exact LeO.refl _)
   | (with_reducible exact LeO.none _)
   | (with_reducible refine LeO.ite ?_ ?_)
   | (with_reducible refine LeO.bind ?_ (fun _ => ?_))
   | exact ih0 _ _ _ _
   | exact ih1 _ _ _ _ _
   | exact LeO.none _
   | refine LeO.ite ?_ ?_
   | refine LeO.bind ?_ (fun _ => ?_)
set_option maxHeartbeats 8000000 in
set_option maxRecDepth 100000 in
theorem spec_poJoined.calls (k : Nat) (a0 : Int) (A1 : Option Addr) (c1 : Nat) (l1 : List (S38)) (a2 : Int) (a3 : Int) (r : Bool) (w : World) (hr1 : Kd.C k38 w A1 l1.length l1) (hc1 : l1.length ≤ c1) (h : spec_poJoined.f k a0 l1 a2 a3 = some r) :
  Calls Tryz.prog 89 #[.int .i64 a0, .slice A1 l1.length c1, .int .i64 a2, .int .i64 a3] w fun e w' => e = .returned (.bool r) ∧ Below w.heap.size w w' := by
 have hu38 := Tryz.underlying38
 have HR1 := Aside0.mk hr1
 have HC1 := Aside0.mk hc1
 clear hr1 hc1
 have HB := Aside0.mk (Below.refl w.heap.size w)
 have H : (if (wrap64 (a3 - a2)) = 1 then (spec_poJoined.j0 k l1 a2 a3 true) else (spec_poJoined.j0 k l1 a2 a3 ((wrap64 (a3 - a2)) == (wrap64 (a0 - 1))))) = some r := h
 clear h
 have HC5 := Aside0.mk H
 clear H
 go_enter Tryz.func89, Tryz.ntmps89
 go_upto_region 1 with (fail)
 go_cut [22] (fun v22 wc => ∃ (kq : Nat) (x22_4 : Bool), v22 = .bool x22_4 ∧ Aside0 (spec_poJoined.j0 kq l1 a2 a3 x22_4 = some r) ∧ Aside0 (kq ≤ k) ∧ Aside0 (Below w.heap.size w wc))
 case first =>
  have H := HC5.out
  clear HC5
  by_cases c6 : (wrap64 (a3 - a2)) = 1
  ·rw [if_pos c6] at H
   have c6b0 : ((wrap64 (a3 - a2)) == 1) = true := beq_iff_eq.mpr c6
   have c6b1 : ((wrap64 (a3 - a2)) != 1) = false := bne_eq_false_iff_eq.mpr c6
   clear c6
   (first | rw [c6b0] | (simp only [i64_w, i32_w]; rw [c6b0]) | skip)
   have H' := Aside0.mk H
   clear H
   go_wp2
   go_meet
   case rel => exact ⟨_, (true), rsd_, H', ⟨by first | omega | exact Nat.le_refl _⟩, ⟨blw_⟩⟩
  ·rw [if_neg c6] at H
   have c6b0 : ((wrap64 (a3 - a2)) == 1) = false := beq_eq_false_iff_ne.mpr c6
   have c6b1 : ((wrap64 (a3 - a2)) != 1) = true := bne_iff_ne.mpr c6
   (first | rw [c6b0] | (simp only [i64_w, i32_w]; rw [c6b0]) | skip)
   have H' := Aside0.mk H
   clear H
   go_wp2
   go_meet
   case rel => exact ⟨_, (((wrap64 (a3 - a2)) == (wrap64 (a0 - 1)))), rsd_, H', ⟨by first | omega | exact Nat.le_refl _⟩, ⟨blw_⟩⟩
 case rest =>
  clear HC5
  try clear c1
  try clear p2
  try clear c6
  try clear c6b0
  try clear c6b1
  try clear p6
  obtain ⟨kq, x22_4, rfl, HA, HJ4, HB⟩ := hcut
  cases kq with
  | zero => exact absurd HA.out (by simp [spec_poJoined.j0])
  | succ kj4 =>
   have H := HA.out
   clear HA
   simp only [spec_poJoined.j0] at H
   by_cases c7 : x22_4 = true
   ·subst c7
    replace H : (some true) = some r := by rw [if_pos rfl] at H; exact H
    obtain rfl := Option.some.inj H
    go_wp2
    go_ret
    exact er_
   ·replace c7 := Bool.eq_false_iff.mpr c7
    subst c7
    replace H : (spec_poJoined.l0 kj4 a2 a3 l1 (l1.length : Int) 0) = some r := by rw [if_neg (show ¬ (false = true) by decide)] at H; exact H
    have H' := Aside0.mk H
    clear H
    go_wp2
    go_loopg [25] kj4 (fun kq v25 w' => ∃ (x25_2 : Int), v25 = .int .i64 x25_2 ∧ Aside0 (spec_poJoined.l0 kq a2 a3 l1 (l1.length : Int) x25_2 = some r) ∧ Aside0 (kq ≤ kj4) ∧ Aside0 (Below w.heap.size w w'))
    case atStart => exact ⟨(0), rsd_, H', ⟨Nat.le_refl _⟩, ⟨blw_⟩⟩
    case round =>
     clear H'
     try clear c1
     try clear p2
     try clear c6
     try clear c6b0
     try clear c6b1
     try clear p6
     try clear c7
     try clear p2
     try clear p6
     obtain ⟨x25_2, rfl, HA, HK2, HB⟩ := hrel
     cases gk with
     | zero => exact absurd HA.out (by simp [spec_poJoined.l0])
     | succ k2 =>
      have H := HA.out
      clear HA
      simp only [spec_poJoined.l0] at H
      by_cases c8 : x25_2 < (l1.length : Int)
      ·rw [if_pos c8] at H
       have c8b0 : decide (x25_2 < (l1.length : Int)) = true := decide_eq_true c8
       clear c8
       by_cases c9 : 0 ≤ x25_2
       case neg=>rw [if_neg c9] at H;exact absurd H (by simp)
       rw [if_pos c9] at H
       have c9b0 : decide (0 ≤ x25_2) = true := decide_eq_true c9
       clear c9
       by_cases c10 : x25_2 < (l1.length : Int)
       case neg=>rw [if_neg c10] at H;exact absurd H (by simp)
       rw [if_pos c10] at H
       have c10b0 : decide (x25_2 < (l1.length : Int)) = true := decide_eq_true c10
       clear c10
       by_cases c11 : ((rd_T38 l1 x25_2).f0) = a2
       ·rw [if_pos c11] at H
        have c11b0 : (((rd_T38 l1 x25_2).f0) == a2) = true := beq_iff_eq.mpr c11
        have c11b1 : (((rd_T38 l1 x25_2).f0) != a2) = false := bne_eq_false_iff_eq.mpr c11
        clear c11
        by_cases c12 : ((rd_T38 l1 x25_2).f1) = a3
        ·rw [if_pos c12] at H
         have c12b0 : (((rd_T38 l1 x25_2).f1) == a3) = true := beq_iff_eq.mpr c12
         have c12b1 : (((rd_T38 l1 x25_2).f1) != a3) = false := bne_eq_false_iff_eq.mpr c12
         clear c12
         obtain rfl := Option.some.inj H
         have p178 : 0 ≤ (x25_2 : Int) := odt_
         have q178 : x25_2 < (l1.length : Int) := odt_
         obtain ⟨ad178, e178, hx178_0, hx178_1⟩ := at_T38 HR1.out x25_2 p178 q178
         cases e178
         (first | replace hx178_0 := (HB.out.cell (World.block_lt_of_cell? w _ hx178_0)).trans hx178_0 | skip)
         (first | replace hx178_1 := (HB.out.cell (World.block_lt_of_cell? w _ hx178_1)).trans hx178_1 | skip)
         replace p178 := eq_true p178
         replace q178 := eq_true q178
         go_wp2_with (first | ((with_reducible refine gate_dst (N := 10) rfl ?_); refine bxe_ 10 #[.int .i64 0, .int .i64 0] 38 ?_; intro gb179 hg w13 hbox hb; have BK179 := Aside0.mk (hbox); have GW179 := gz_ w hg; have GE179 := gz_ w hg; replace HB := Aside0.mk (below_step blw_ hb); clear hb hbox hg; have hcz14_0 := blc_ (.int .i64 0) BK179 0; have hcz14_1 := blc_ (.int .i64 0) BK179 1; have hfz14_0 := blk_frozen BK179.out 0; have hfz14_1 := blk_frozen BK179.out 1))
         go_ret
         exact er_
        ·rw [if_neg c12] at H
         have c12b0 : (((rd_T38 l1 x25_2).f1) == a3) = false := beq_eq_false_iff_ne.mpr c12
         have c12b1 : (((rd_T38 l1 x25_2).f1) != a3) = true := bne_iff_ne.mpr c12
         have H' := Aside0.mk H
         clear H
         have p178 : 0 ≤ (x25_2 : Int) := odt_
         have q178 : x25_2 < (l1.length : Int) := odt_
         obtain ⟨ad178, e178, hx178_0, hx178_1⟩ := at_T38 HR1.out x25_2 p178 q178
         cases e178
         (first | replace hx178_0 := (HB.out.cell (World.block_lt_of_cell? w _ hx178_0)).trans hx178_0 | skip)
         (first | replace hx178_1 := (HB.out.cell (World.block_lt_of_cell? w _ hx178_1)).trans hx178_1 | skip)
         replace p178 := eq_true p178
         replace q178 := eq_true q178
         go_wp2_with (first | ((with_reducible refine gate_dst (N := 10) rfl ?_); refine bxe_ 10 #[.int .i64 0, .int .i64 0] 38 ?_; intro gb179 hg w15 hbox hb; have BK179 := Aside0.mk (hbox); have GW179 := gz_ w hg; have GE179 := gz_ w hg; replace HB := Aside0.mk (below_step blw_ hb); clear hb hbox hg; have hcz16_0 := blc_ (.int .i64 0) BK179 0; have hcz16_1 := blc_ (.int .i64 0) BK179 1; have hfz16_0 := blk_frozen BK179.out 0; have hfz16_1 := blk_frozen BK179.out 1))
         go_roundg k2
         case measure => have := HJ4.out; have := HK2.out; omega
         case rel => exact ⟨(wrap64 (x25_2 + 1)), rsd_, H', ⟨by have := HJ4.out; have := HK2.out; omega⟩, ⟨bls_⟩⟩
       ·rw [if_neg c11] at H
        have c11b0 : (((rd_T38 l1 x25_2).f0) == a2) = false := beq_eq_false_iff_ne.mpr c11
        have c11b1 : (((rd_T38 l1 x25_2).f0) != a2) = true := bne_iff_ne.mpr c11
        have H' := Aside0.mk H
        clear H
        have p178 : 0 ≤ (x25_2 : Int) := odt_
        have q178 : x25_2 < (l1.length : Int) := odt_
        obtain ⟨ad178, e178, hx178_0, hx178_1⟩ := at_T38 HR1.out x25_2 p178 q178
        cases e178
        (first | replace hx178_0 := (HB.out.cell (World.block_lt_of_cell? w _ hx178_0)).trans hx178_0 | skip)
        (first | replace hx178_1 := (HB.out.cell (World.block_lt_of_cell? w _ hx178_1)).trans hx178_1 | skip)
        replace p178 := eq_true p178
        replace q178 := eq_true q178
        go_wp2_with (first | ((with_reducible refine gate_dst (N := 10) rfl ?_); refine bxe_ 10 #[.int .i64 0, .int .i64 0] 38 ?_; intro gb179 hg w17 hbox hb; have BK179 := Aside0.mk (hbox); have GW179 := gz_ w hg; have GE179 := gz_ w hg; replace HB := Aside0.mk (below_step blw_ hb); clear hb hbox hg; have hcz18_0 := blc_ (.int .i64 0) BK179 0; have hcz18_1 := blc_ (.int .i64 0) BK179 1; have hfz18_0 := blk_frozen BK179.out 0; have hfz18_1 := blk_frozen BK179.out 1))
        go_roundg k2
        case measure => have := HJ4.out; have := HK2.out; omega
        case rel => exact ⟨(wrap64 (x25_2 + 1)), rsd_, H', ⟨by have := HJ4.out; have := HK2.out; omega⟩, ⟨bls_⟩⟩
      ·rw [if_neg c8] at H
       have c8b0 : decide (x25_2 < (l1.length : Int)) = false := decide_eq_false c8
       clear c8
       obtain rfl := Option.some.inj H
       go_wp2
       go_ret
       exact er_

/-! ### spec_flOther: function 67 -/
mutual
def spec_flOther.l0 : Nat → Int → List (S38) → Int → Int → Int → Int → Int → Option (Int × Int)
 | 0, _, _, _, _, _, _, _ => none
 | k + 1, x0, x1, x8, x181000, x181001, x183000, x183001 => if x8 < x0 then (if x8 = x181000 then (spec_flOther.j1 k x0 x1 x8 true x181000 x181001 x183000 x183001) else (spec_flOther.j1 k x0 x1 x8 (x8 == x181001) x181000 x181001 x183000 x183001)) else (some (x183000, x183001))
def spec_flOther.j1 : Nat → Int → List (S38) → Int → Bool → Int → Int → Int → Int → Option (Int × Int)
 | 0, _, _, _, _, _, _, _, _ => none
 | k + 1, x0, x1, x8, x28, x181000, x181001, x183000, x183001 => if x28 = true then (spec_flOther.l0 k x0 x1 (wrap64 (x8 + 1)) x181000 x181001 x183000 x183001) else ((spec_l1Least.f x8 x181000).bind fun t183 => ((spec_l1Most.f x8 x181000).bind fun t184 => ((spec_l1Least.f x8 x181001).bind fun t185 => ((spec_l1Most.f x8 x181001).bind fun t186 => ((spec_poJoined.f k x0 x1 t183 t184).bind fun t187 => (if t187 = true then ((spec_poJoined.f k x0 x1 t185 t186).bind fun t188 => (spec_flOther.j2 k x0 x1 x8 (!t188) x181000 x181001 x183000 x183001)) else (spec_flOther.j2 k x0 x1 x8 true x181000 x181001 x183000 x183001)))))))
def spec_flOther.j2 : Nat → Int → List (S38) → Int → Bool → Int → Int → Int → Int → Option (Int × Int)
 | 0, _, _, _, _, _, _, _, _ => none
 | k + 1, x0, x1, x8, x58, x181000, x181001, x183000, x183001 => if x58 = true then (spec_flOther.l0 k x0 x1 (wrap64 (x8 + 1)) x181000 x181001 x183000 x183001) else (if x183000 < 0 then (spec_flOther.l0 k x0 x1 (wrap64 (x8 + 1)) x181000 x181001 x8 x183001) else (spec_flOther.l0 k x0 x1 (wrap64 (x8 + 1)) x181000 x181001 x183000 x8))
end
def spec_flOther.f (k : Nat) (a0 : Int) (l1 : List (S38)) (a2_0 : Int) (a2_1 : Int) : Option (Int × Int) := spec_flOther.l0 k a0 l1 0 a2_0 a2_1 (-1) (-1)
theorem spec_flOther.mono_l : ∀ k, (∀ y0 y1 y2 y3 y4 y5 y6, LeO (spec_flOther.l0 k y0 y1 y2 y3 y4 y5 y6) (spec_flOther.l0 (k + 1) y0 y1 y2 y3 y4 y5 y6)) ∧ (∀ y0 y1 y2 y3 y4 y5 y6 y7, LeO (spec_flOther.j1 k y0 y1 y2 y3 y4 y5 y6 y7) (spec_flOther.j1 (k + 1) y0 y1 y2 y3 y4 y5 y6 y7)) ∧ (∀ y0 y1 y2 y3 y4 y5 y6 y7, LeO (spec_flOther.j2 k y0 y1 y2 y3 y4 y5 y6 y7) (spec_flOther.j2 (k + 1) y0 y1 y2 y3 y4 y5 y6 y7))
 | 0 => ⟨fun _ _ _ _ _ _ _ r h => by simp [spec_flOther.l0] at h, fun _ _ _ _ _ _ _ _ r h => by simp [spec_flOther.j1] at h, fun _ _ _ _ _ _ _ _ r h => by simp [spec_flOther.j2] at h⟩
 | k + 1 => by
  obtain ⟨ih0, ih1, ih2⟩ := spec_flOther.mono_l k
  refine ⟨?_, ?_, ?_⟩
  ·intro y0 y1 y2 y3 y4 y5 y6
   unfold spec_flOther.l0
   repeat' first
   | (with_reducible exact ih0 _ _ _ _ _ _ _)
   | (with_reducible exact ih1 _ _ _ _ _ _ _ _)
   | (with_reducible exact ih2 _ _ _ _ _ _ _ _)
   | (with_reducible exact spec_poJoined.mono _ _ _ _ _)
   | (with_reducible exact LeO.refl _)
   | (with_reducible exact LeO.none _)
   | (with_reducible refine LeO.ite ?_ ?_)
   | (with_reducible refine LeO.bind ?_ (fun _ => ?_))
   | exact ih0 _ _ _ _ _ _ _
   | exact ih1 _ _ _ _ _ _ _ _
   | exact ih2 _ _ _ _ _ _ _ _
   | exact spec_poJoined.mono _ _ _ _ _
   | exact LeO.none _
   | refine LeO.ite ?_ ?_
   | refine LeO.bind ?_ (fun _ => ?_)
  ·intro y0 y1 y2 y3 y4 y5 y6 y7
   unfold spec_flOther.j1
   repeat' first
   | (with_reducible exact ih0 _ _ _ _ _ _ _)
   | (with_reducible exact ih1 _ _ _ _ _ _ _ _)
   | (with_reducible exact ih2 _ _ _ _ _ _ _ _)
   | (with_reducible exact spec_poJoined.mono _ _ _ _ _)
   | (with_reducible exact LeO.refl _)
   | (with_reducible exact LeO.none _)
   | (with_reducible refine LeO.ite ?_ ?_)
   | (with_reducible refine LeO.bind ?_ (fun _ => ?_))
   | exact ih0 _ _ _ _ _ _ _
   | exact ih1 _ _ _ _ _ _ _ _
   | exact ih2 _ _ _ _ _ _ _ _
   | exact spec_poJoined.mono _ _ _ _ _
   | exact LeO.none _
   | refine LeO.ite ?_ ?_
   | refine LeO.bind ?_ (fun _ => ?_)
  ·intro y0 y1 y2 y3 y4 y5 y6 y7
   unfold spec_flOther.j2
   repeat' first
   | (with_reducible exact ih0 _ _ _ _ _ _ _)
   | (with_reducible exact ih1 _ _ _ _ _ _ _ _)
   | (with_reducible exact ih2 _ _ _ _ _ _ _ _)
   | (with_reducible exact spec_poJoined.mono _ _ _ _ _)
   | (with_reducible exact LeO.refl _)
   | (with_reducible exact LeO.none _)
   | (with_reducible refine LeO.ite ?_ ?_)
   | (with_reducible refine LeO.bind ?_ (fun _ => ?_))
   | exact ih0 _ _ _ _ _ _ _
   | exact ih1 _ _ _ _ _ _ _ _
   | exact ih2 _ _ _ _ _ _ _ _
   | exact spec_poJoined.mono _ _ _ _ _
   | exact LeO.none _
   | refine LeO.ite ?_ ?_
   | refine LeO.bind ?_ (fun _ => ?_)
theorem spec_flOther.mono : ∀ a0 a1 a2 a3 k, LeO (spec_flOther.f k a0 a1 a2 a3) (spec_flOther.f (k + 1) a0 a1 a2 a3) := by
 intro a0 a1 a2 a3 k
 obtain ⟨ih0, ih1, ih2⟩ := spec_flOther.mono_l k
 unfold spec_flOther.f
 repeat' first
   | (with_reducible exact ih0 _ _ _ _ _ _ _)
   | (with_reducible exact ih1 _ _ _ _ _ _ _ _)
   | (with_reducible exact ih2 _ _ _ _ _ _ _ _)
   | (with_reducible exact spec_poJoined.mono _ _ _ _ _)
   | (with_reducible exact LeO.refl _)
   | (with_reducible exact LeO.none _)
   | (with_reducible refine LeO.ite ?_ ?_)
   | (with_reducible refine LeO.bind ?_ (fun _ => ?_))
   | exact ih0 _ _ _ _ _ _ _
   | exact ih1 _ _ _ _ _ _ _ _
   | exact ih2 _ _ _ _ _ _ _ _
   | exact spec_poJoined.mono _ _ _ _ _
   | exact LeO.none _
   | refine LeO.ite ?_ ?_
   | refine LeO.bind ?_ (fun _ => ?_)
set_option maxHeartbeats 8000000 in
set_option maxRecDepth 100000 in
theorem spec_flOther.calls (k : Nat) (a0 : Int) (A1 : Option Addr) (c1 : Nat) (l1 : List (S38)) (a2_0 : Int) (a2_1 : Int) (r1 : Int) (r2 : Int) (w : World) (hr1 : Kd.C k38 w A1 l1.length l1) (hc1 : l1.length ≤ c1) (h : spec_flOther.f k a0 l1 a2_0 a2_1 = some (r1, r2)) :
  Calls Tryz.prog 67 #[.int .i64 a0, .slice A1 l1.length c1, .agg #[.int .i64 a2_0, .int .i64 a2_1]] w fun e w' => e = .returned (.agg #[.int .i64 r1, .int .i64 r2]) ∧ Below w.heap.size w w' := by
 have hu38 := Tryz.underlying38
 have HR1 := Aside0.mk hr1
 have HC1 := Aside0.mk hc1
 clear hr1 hc1
 have HB := Aside0.mk (Below.refl w.heap.size w)
 have H : (spec_flOther.l0 k a0 l1 0 a2_0 a2_1 (-1) (-1)) = some (r1, r2) := h
 clear h
 have H' := Aside0.mk H
 clear H
 go_enter Tryz.func67, Tryz.ntmps67
 go_wp2_with (first | ((with_reducible refine gate_dst (N := 5) rfl ?_); refine bxe_ 5 #[.int .i64 a2_0, .int .i64 a2_1] 38 ?_; intro gb180 hg w4 hbox hb; have BK180 := Aside0.mk (hbox); have GW180 := gz_ w hg; have GE180 := gz_ w hg; replace HB := Aside0.mk (below_step blw_ hb); clear hb hbox hg) | ((with_reducible refine gate_dst (N := 6) rfl ?_); refine bxe_ 6 #[.int .i64 0, .int .i64 0] 38 ?_; intro gb181 hg w5 hbox hb; have BK181 := Aside0.mk (hbox); have GW181 := gz_ w hg; have GE181 := gz_ w hg; have NB180_181 := nb_ BK180 hg; have NB181_180 := nbr_ BK180 hg; replace BK180 := bb_ BK180 hb; replace HB := Aside0.mk (below_step bls_ hb); clear hb hbox hg) | ((with_reducible refine gate_dst (N := 7) rfl ?_); refine bxe_ 7 #[.int .i64 0, .int .i64 0] 38 ?_; intro gb182 hg w6 hbox hb; have BK182 := Aside0.mk (hbox); have GW182 := gz_ w hg; have GE182 := gz_ w hg; have NB180_182 := nb_ BK180 hg; have NB182_180 := nbr_ BK180 hg; have NB181_182 := nb_ BK181 hg; have NB182_181 := nbr_ BK181 hg; replace BK180 := bb_ BK180 hb; replace BK181 := bb_ BK181 hb; replace HB := Aside0.mk (below_step bls_ hb); clear hb hbox hg; have hnb7 := NB182_180.out; have hnc7 := NB180_182.out; have hnb8 := NB182_181.out; have hnc8 := NB181_182.out; have hcz9_0 := blc_ (.int .i64 0) BK182 0; have hcz9_1 := blc_ (.int .i64 0) BK182 1; have hfz9_0 := blk_frozen BK182.out 0; have hfz9_1 := blk_frozen BK182.out 1))
 repeat (go_quiet (first | ((with_reducible refine gate_dst (N := 5) rfl ?_); refine bxe_ 5 #[.int .i64 a2_0, .int .i64 a2_1] 38 ?_; intro gb180 hg w4 hbox hb; have BK180 := Aside0.mk (hbox); have GW180 := gz_ w hg; have GE180 := gz_ w hg; replace HB := Aside0.mk (below_step blw_ hb); clear hb hbox hg) | ((with_reducible refine gate_dst (N := 6) rfl ?_); refine bxe_ 6 #[.int .i64 0, .int .i64 0] 38 ?_; intro gb181 hg w5 hbox hb; have BK181 := Aside0.mk (hbox); have GW181 := gz_ w hg; have GE181 := gz_ w hg; have NB180_181 := nb_ BK180 hg; have NB181_180 := nbr_ BK180 hg; replace BK180 := bb_ BK180 hb; replace HB := Aside0.mk (below_step bls_ hb); clear hb hbox hg) | ((with_reducible refine gate_dst (N := 7) rfl ?_); refine bxe_ 7 #[.int .i64 0, .int .i64 0] 38 ?_; intro gb182 hg w6 hbox hb; have BK182 := Aside0.mk (hbox); have GW182 := gz_ w hg; have GE182 := gz_ w hg; have NB180_182 := nb_ BK180 hg; have NB182_180 := nbr_ BK180 hg; have NB181_182 := nb_ BK181 hg; have NB182_181 := nbr_ BK181 hg; replace BK180 := bb_ BK180 hb; replace BK181 := bb_ BK181 hb; replace HB := Aside0.mk (below_step bls_ hb); clear hb hbox hg; have hnb7 := NB182_180.out; have hnc7 := NB180_182.out; have hnb8 := NB182_181.out; have hnc8 := NB181_182.out; have hcz9_0 := blc_ (.int .i64 0) BK182 0; have hcz9_1 := blc_ (.int .i64 0) BK182 1; have hfz9_0 := blk_frozen BK182.out 0; have hfz9_1 := blk_frozen BK182.out 1)); try go_wp2_with (first | ((with_reducible refine gate_dst (N := 5) rfl ?_); refine bxe_ 5 #[.int .i64 a2_0, .int .i64 a2_1] 38 ?_; intro gb180 hg w4 hbox hb; have BK180 := Aside0.mk (hbox); have GW180 := gz_ w hg; have GE180 := gz_ w hg; replace HB := Aside0.mk (below_step blw_ hb); clear hb hbox hg) | ((with_reducible refine gate_dst (N := 6) rfl ?_); refine bxe_ 6 #[.int .i64 0, .int .i64 0] 38 ?_; intro gb181 hg w5 hbox hb; have BK181 := Aside0.mk (hbox); have GW181 := gz_ w hg; have GE181 := gz_ w hg; have NB180_181 := nb_ BK180 hg; have NB181_180 := nbr_ BK180 hg; replace BK180 := bb_ BK180 hb; replace HB := Aside0.mk (below_step bls_ hb); clear hb hbox hg) | ((with_reducible refine gate_dst (N := 7) rfl ?_); refine bxe_ 7 #[.int .i64 0, .int .i64 0] 38 ?_; intro gb182 hg w6 hbox hb; have BK182 := Aside0.mk (hbox); have GW182 := gz_ w hg; have GE182 := gz_ w hg; have NB180_182 := nb_ BK180 hg; have NB182_180 := nbr_ BK180 hg; have NB181_182 := nb_ BK181 hg; have NB182_181 := nbr_ BK181 hg; replace BK180 := bb_ BK180 hb; replace BK181 := bb_ BK181 hb; replace HB := Aside0.mk (below_step bls_ hb); clear hb hbox hg; have hnb7 := NB182_180.out; have hnc7 := NB180_182.out; have hnb8 := NB182_181.out; have hnc8 := NB181_182.out; have hcz9_0 := blc_ (.int .i64 0) BK182 0; have hcz9_1 := blc_ (.int .i64 0) BK182 1; have hfz9_0 := blk_frozen BK182.out 0; have hfz9_1 := blk_frozen BK182.out 1)))
 go_loopg [8] k (fun kq v8 w' => ∃ (x8_1 : Int) (x183000_1 : Int) (x183001_1 : Int), v8 = .int .i64 x8_1 ∧ Aside0 (spec_flOther.l0 kq a0 l1 x8_1 a2_0 a2_1 x183000_1 x183001_1 = some (r1, r2)) ∧ Aside0 (kq ≤ k) ∧ Aside0 (w'.heap[gb180]? = some (.cells #[.int .i64 a2_0, .int .i64 a2_1] 38 (0, 0))) ∧ Aside0 (w'.heap[gb181]? = some (.cells #[.int .i64 0, .int .i64 0] 38 (0, 0))) ∧ Aside0 (w'.heap[gb182]? = some (.cells #[.int .i64 x183000_1, .int .i64 x183001_1] 38 (0, 0))) ∧ Aside0 (Below w.heap.size w w'))
 case atStart => exact ⟨(0), ((-1)), ((-1)), rsd_, H', ⟨Nat.le_refl _⟩, ⟨by (with_reducible repeat (first | refine blk_drewN ?_ _ | refine blk_drew ?_ | refine blk_alloc ?_ _)); refine blk_far ?_ NB180_182.out _; (with_reducible repeat (first | refine blk_drewN ?_ _ | refine blk_drew ?_ | refine blk_alloc ?_ _)); refine blk_far ?_ NB180_182.out _; (with_reducible repeat (first | refine blk_drewN ?_ _ | refine blk_drew ?_ | refine blk_alloc ?_ _)); exact BK180.out⟩, ⟨by (with_reducible repeat (first | refine blk_drewN ?_ _ | refine blk_drew ?_ | refine blk_alloc ?_ _)); refine blk_far ?_ NB181_182.out _; (with_reducible repeat (first | refine blk_drewN ?_ _ | refine blk_drew ?_ | refine blk_alloc ?_ _)); refine blk_far ?_ NB181_182.out _; (with_reducible repeat (first | refine blk_drewN ?_ _ | refine blk_drew ?_ | refine blk_alloc ?_ _)); exact BK181.out⟩, ⟨by (with_reducible repeat (first | refine blk_drewN ?_ _ | refine blk_drew ?_ | refine blk_alloc ?_ _)); refine blk_put (cs := #[.int .i64 (-1), .int .i64 0]) ?_ 1 _ rfl; (with_reducible repeat (first | refine blk_drewN ?_ _ | refine blk_drew ?_ | refine blk_alloc ?_ _)); refine blk_put (cs := #[.int .i64 0, .int .i64 0]) ?_ 0 _ rfl; (with_reducible repeat (first | refine blk_drewN ?_ _ | refine blk_drew ?_ | refine blk_alloc ?_ _)); exact BK182.out⟩, ⟨bls_⟩⟩
 case round =>
  clear H'
  try clear c1
  try clear p2
  try clear c6
  try clear c7
  try clear c8
  try clear hcz9_0
  try clear hcz9_1
  try clear hfz9_0
  try clear hfz9_1
  obtain ⟨x8_1, x183000_1, x183001_1, rfl, HA, HK1, BK180, BK181, BK182, HB⟩ := hrel
  cases gk with
  | zero => exact absurd HA.out (by simp [spec_flOther.l0])
  | succ k1 =>
   have H := HA.out
   clear HA
   simp only [spec_flOther.l0] at H
   by_cases c10 : x8_1 < a0
   ·rw [if_pos c10] at H
    have c10b0 : decide (x8_1 < a0) = true := decide_eq_true c10
    clear c10
    have HC11 := Aside0.mk H
    clear H
    go_upto_region 5 with (fail)
    repeat (go_quiet (fail); go_upto_region 5 with (fail))
    go_cut [28] (fun v28 wc => ∃ (kq : Nat) (x28_10 : Bool), v28 = .bool x28_10 ∧ Aside0 (spec_flOther.j1 kq a0 l1 x8_1 x28_10 a2_0 a2_1 x183000_1 x183001_1 = some (r1, r2)) ∧ Aside0 (kq ≤ k1) ∧ Aside0 (wc.heap[gb180]? = some (.cells #[.int .i64 a2_0, .int .i64 a2_1] 38 (0, 0))) ∧ Aside0 (wc.heap[gb181]? = some (.cells #[.int .i64 0, .int .i64 0] 38 (0, 0))) ∧ Aside0 (wc.heap[gb182]? = some (.cells #[.int .i64 x183000_1, .int .i64 x183001_1] 38 (0, 0))) ∧ Aside0 (Below w.heap.size w wc))
    case first =>
     have H := HC11.out
     clear HC11
     by_cases c12 : x8_1 = a2_0
     ·rw [if_pos c12] at H
      have c12b0 : (x8_1 == a2_0) = true := beq_iff_eq.mpr c12
      have c12b1 : (x8_1 != a2_0) = false := bne_eq_false_iff_eq.mpr c12
      clear c12
      (first | rw [c12b0] | (simp only [i64_w, i32_w]; rw [c12b0]) | skip)
      have H' := Aside0.mk H
      clear H
      have hnb13 := NB180_181.out
      have hnc13 := NB181_180.out
      have hnb14 := NB180_182.out
      have hnc14 := NB182_180.out
      have hcz15_0 := blc_ (.int .i64 a2_0) BK180 0
      have hcz15_1 := blc_ (.int .i64 a2_1) BK180 1
      have hfz15_0 := blk_frozen BK180.out 0
      have hfz15_1 := blk_frozen BK180.out 1
      go_wp2
      repeat (go_quiet (fail); try go_wp2)
      go_meet
      case rel => exact ⟨_, (true), rsd_, H', ⟨by have := HK1.out; first | omega | exact Nat.le_refl _⟩, ⟨bk_ BK180.out⟩, ⟨bk_ BK181.out⟩, ⟨bk_ BK182.out⟩, ⟨bls_⟩⟩
     ·rw [if_neg c12] at H
      have c12b0 : (x8_1 == a2_0) = false := beq_eq_false_iff_ne.mpr c12
      have c12b1 : (x8_1 != a2_0) = true := bne_iff_ne.mpr c12
      (first | rw [c12b0] | (simp only [i64_w, i32_w]; rw [c12b0]) | skip)
      have H' := Aside0.mk H
      clear H
      have hnb16 := NB180_181.out
      have hnc16 := NB181_180.out
      have hnb17 := NB180_182.out
      have hnc17 := NB182_180.out
      have hcz18_0 := blc_ (.int .i64 a2_0) BK180 0
      have hcz18_1 := blc_ (.int .i64 a2_1) BK180 1
      have hfz18_0 := blk_frozen BK180.out 0
      have hfz18_1 := blk_frozen BK180.out 1
      go_wp2
      repeat (go_quiet (fail); try go_wp2)
      go_meet
      case rel => exact ⟨_, ((x8_1 == a2_1)), rsd_, H', ⟨by have := HK1.out; first | omega | exact Nat.le_refl _⟩, ⟨bk_ BK180.out⟩, ⟨bk_ BK181.out⟩, ⟨bk_ BK182.out⟩, ⟨bls_⟩⟩
    case rest =>
     clear HC11
     try clear c1
     try clear p2
     try clear c6
     try clear c7
     try clear c8
     try clear c10
     try clear c10b0
     try clear c12
     try clear c12b0
     try clear c12b1
     try clear c13
     try clear c14
     try clear c16
     try clear c17
     try clear hcz15_0
     try clear hcz15_1
     try clear hcz18_0
     try clear hcz18_1
     try clear hcz9_0
     try clear hcz9_1
     try clear hfz15_0
     try clear hfz15_1
     try clear hfz18_0
     try clear hfz18_1
     try clear hfz9_0
     try clear hfz9_1
     try clear p2
     obtain ⟨kq, x28_10, rfl, HA, HJ10, BK180, BK181, BK182, HB⟩ := hcut
     cases kq with
     | zero => exact absurd HA.out (by simp [spec_flOther.j1])
     | succ kj10 =>
      have H := HA.out
      clear HA
      simp only [spec_flOther.j1] at H
      by_cases c19 : x28_10 = true
      ·subst c19
       replace H : (spec_flOther.l0 kj10 a0 l1 (wrap64 (x8_1 + 1)) a2_0 a2_1 x183000_1 x183001_1) = some (r1, r2) := by rw [if_pos rfl] at H; exact H
       have H' := Aside0.mk H
       clear H
       go_wp2
       repeat (go_quiet (fail); try go_wp2)
       go_roundg kj10
       case measure => have := HK1.out; have := HJ10.out; omega
       case rel => exact ⟨(wrap64 (x8_1 + 1)), (x183000_1), (x183001_1), rsd_, H', ⟨by have := HK1.out; have := HJ10.out; omega⟩, ⟨bk_ BK180.out⟩, ⟨bk_ BK181.out⟩, ⟨bk_ BK182.out⟩, ⟨bls_⟩⟩
      ·replace c19 := Bool.eq_false_iff.mpr c19
       subst c19
       replace H : ((spec_l1Least.f x8_1 a2_0).bind fun t183 => ((spec_l1Most.f x8_1 a2_0).bind fun t184 => ((spec_l1Least.f x8_1 a2_1).bind fun t185 => ((spec_l1Most.f x8_1 a2_1).bind fun t186 => ((spec_poJoined.f kj10 a0 l1 t183 t184).bind fun t187 => (if t187 = true then ((spec_poJoined.f kj10 a0 l1 t185 t186).bind fun t188 => (spec_flOther.j2 kj10 a0 l1 x8_1 (!t188) a2_0 a2_1 x183000_1 x183001_1)) else (spec_flOther.j2 kj10 a0 l1 x8_1 true a2_0 a2_1 x183000_1 x183001_1))))))) = some (r1, r2) := by rw [if_neg (show ¬ (false = true) by decide)] at H; exact H
       replace H := Option.bind_eq_some_iff.mp H
       obtain ⟨t183, A200, H⟩ := H
       replace H : ((spec_l1Most.f x8_1 a2_0).bind fun t184 => ((spec_l1Least.f x8_1 a2_1).bind fun t185 => ((spec_l1Most.f x8_1 a2_1).bind fun t186 => ((spec_poJoined.f kj10 a0 l1 t183 t184).bind fun t187 => (if t187 = true then ((spec_poJoined.f kj10 a0 l1 t185 t186).bind fun t188 => (spec_flOther.j2 kj10 a0 l1 x8_1 (!t188) a2_0 a2_1 x183000_1 x183001_1)) else (spec_flOther.j2 kj10 a0 l1 x8_1 true a2_0 a2_1 x183000_1 x183001_1)))))) = some (r1, r2) := H
       have A20 := Aside0.mk A200
       clear A200
       replace H := Option.bind_eq_some_iff.mp H
       obtain ⟨t184, A210, H⟩ := H
       replace H : ((spec_l1Least.f x8_1 a2_1).bind fun t185 => ((spec_l1Most.f x8_1 a2_1).bind fun t186 => ((spec_poJoined.f kj10 a0 l1 t183 t184).bind fun t187 => (if t187 = true then ((spec_poJoined.f kj10 a0 l1 t185 t186).bind fun t188 => (spec_flOther.j2 kj10 a0 l1 x8_1 (!t188) a2_0 a2_1 x183000_1 x183001_1)) else (spec_flOther.j2 kj10 a0 l1 x8_1 true a2_0 a2_1 x183000_1 x183001_1))))) = some (r1, r2) := H
       have A21 := Aside0.mk A210
       clear A210
       replace H := Option.bind_eq_some_iff.mp H
       obtain ⟨t185, A220, H⟩ := H
       replace H : ((spec_l1Most.f x8_1 a2_1).bind fun t186 => ((spec_poJoined.f kj10 a0 l1 t183 t184).bind fun t187 => (if t187 = true then ((spec_poJoined.f kj10 a0 l1 t185 t186).bind fun t188 => (spec_flOther.j2 kj10 a0 l1 x8_1 (!t188) a2_0 a2_1 x183000_1 x183001_1)) else (spec_flOther.j2 kj10 a0 l1 x8_1 true a2_0 a2_1 x183000_1 x183001_1)))) = some (r1, r2) := H
       have A22 := Aside0.mk A220
       clear A220
       replace H := Option.bind_eq_some_iff.mp H
       obtain ⟨t186, A230, H⟩ := H
       replace H : ((spec_poJoined.f kj10 a0 l1 t183 t184).bind fun t187 => (if t187 = true then ((spec_poJoined.f kj10 a0 l1 t185 t186).bind fun t188 => (spec_flOther.j2 kj10 a0 l1 x8_1 (!t188) a2_0 a2_1 x183000_1 x183001_1)) else (spec_flOther.j2 kj10 a0 l1 x8_1 true a2_0 a2_1 x183000_1 x183001_1))) = some (r1, r2) := H
       have A23 := Aside0.mk A230
       clear A230
       have HC24 := Aside0.mk H
       clear H
       have hnb25 := NB180_181.out
       have hnc25 := NB181_180.out
       have hnb26 := NB180_182.out
       have hnc26 := NB182_180.out
       have hcz27_0 := blc_ (.int .i64 a2_0) BK180 0
       have hcz27_1 := blc_ (.int .i64 a2_1) BK180 1
       have hfz27_0 := blk_frozen BK180.out 0
       have hfz27_1 := blk_frozen BK180.out 1
       go_upto_region 8 with (first | (go_at_call 87; (with_reducible refine (spec_l1Least.calls x8_1 a2_0 t183 _ A20.out).mono ?_); rintro e w' ⟨rfl, ⟨nd, rfl⟩⟩; (try first | exact ⟨rfl, _, World.drewN_drewN _ _ _⟩ | exact ⟨rfl, _, Eq.trans (World.drewN_drewN _ _ _) (congrArg (World.drewN _) (Nat.add_assoc _ _ _))⟩)) | (go_at_call 88; (with_reducible refine (spec_l1Most.calls x8_1 a2_0 t184 _ A21.out).mono ?_); rintro e w' ⟨rfl, ⟨nd, rfl⟩⟩; (try first | exact ⟨rfl, _, World.drewN_drewN _ _ _⟩ | exact ⟨rfl, _, Eq.trans (World.drewN_drewN _ _ _) (congrArg (World.drewN _) (Nat.add_assoc _ _ _))⟩)) | (go_at_call 87; (with_reducible refine (spec_l1Least.calls x8_1 a2_1 t185 _ A22.out).mono ?_); rintro e w' ⟨rfl, ⟨nd, rfl⟩⟩; (try first | exact ⟨rfl, _, World.drewN_drewN _ _ _⟩ | exact ⟨rfl, _, Eq.trans (World.drewN_drewN _ _ _) (congrArg (World.drewN _) (Nat.add_assoc _ _ _))⟩)) | (go_at_call 88; (with_reducible refine (spec_l1Most.calls x8_1 a2_1 t186 _ A23.out).mono ?_); rintro e w' ⟨rfl, ⟨nd, rfl⟩⟩; (try first | exact ⟨rfl, _, World.drewN_drewN _ _ _⟩ | exact ⟨rfl, _, Eq.trans (World.drewN_drewN _ _ _) (congrArg (World.drewN _) (Nat.add_assoc _ _ _))⟩)))
       repeat (go_quiet (first | (go_at_call 87; (with_reducible refine (spec_l1Least.calls x8_1 a2_0 t183 _ A20.out).mono ?_); rintro e w' ⟨rfl, ⟨nd, rfl⟩⟩; (try first | exact ⟨rfl, _, World.drewN_drewN _ _ _⟩ | exact ⟨rfl, _, Eq.trans (World.drewN_drewN _ _ _) (congrArg (World.drewN _) (Nat.add_assoc _ _ _))⟩)) | (go_at_call 88; (with_reducible refine (spec_l1Most.calls x8_1 a2_0 t184 _ A21.out).mono ?_); rintro e w' ⟨rfl, ⟨nd, rfl⟩⟩; (try first | exact ⟨rfl, _, World.drewN_drewN _ _ _⟩ | exact ⟨rfl, _, Eq.trans (World.drewN_drewN _ _ _) (congrArg (World.drewN _) (Nat.add_assoc _ _ _))⟩)) | (go_at_call 87; (with_reducible refine (spec_l1Least.calls x8_1 a2_1 t185 _ A22.out).mono ?_); rintro e w' ⟨rfl, ⟨nd, rfl⟩⟩; (try first | exact ⟨rfl, _, World.drewN_drewN _ _ _⟩ | exact ⟨rfl, _, Eq.trans (World.drewN_drewN _ _ _) (congrArg (World.drewN _) (Nat.add_assoc _ _ _))⟩)) | (go_at_call 88; (with_reducible refine (spec_l1Most.calls x8_1 a2_1 t186 _ A23.out).mono ?_); rintro e w' ⟨rfl, ⟨nd, rfl⟩⟩; (try first | exact ⟨rfl, _, World.drewN_drewN _ _ _⟩ | exact ⟨rfl, _, Eq.trans (World.drewN_drewN _ _ _) (congrArg (World.drewN _) (Nat.add_assoc _ _ _))⟩))); go_upto_region 8 with (first | (go_at_call 87; (with_reducible refine (spec_l1Least.calls x8_1 a2_0 t183 _ A20.out).mono ?_); rintro e w' ⟨rfl, ⟨nd, rfl⟩⟩; (try first | exact ⟨rfl, _, World.drewN_drewN _ _ _⟩ | exact ⟨rfl, _, Eq.trans (World.drewN_drewN _ _ _) (congrArg (World.drewN _) (Nat.add_assoc _ _ _))⟩)) | (go_at_call 88; (with_reducible refine (spec_l1Most.calls x8_1 a2_0 t184 _ A21.out).mono ?_); rintro e w' ⟨rfl, ⟨nd, rfl⟩⟩; (try first | exact ⟨rfl, _, World.drewN_drewN _ _ _⟩ | exact ⟨rfl, _, Eq.trans (World.drewN_drewN _ _ _) (congrArg (World.drewN _) (Nat.add_assoc _ _ _))⟩)) | (go_at_call 87; (with_reducible refine (spec_l1Least.calls x8_1 a2_1 t185 _ A22.out).mono ?_); rintro e w' ⟨rfl, ⟨nd, rfl⟩⟩; (try first | exact ⟨rfl, _, World.drewN_drewN _ _ _⟩ | exact ⟨rfl, _, Eq.trans (World.drewN_drewN _ _ _) (congrArg (World.drewN _) (Nat.add_assoc _ _ _))⟩)) | (go_at_call 88; (with_reducible refine (spec_l1Most.calls x8_1 a2_1 t186 _ A23.out).mono ?_); rintro e w' ⟨rfl, ⟨nd, rfl⟩⟩; (try first | exact ⟨rfl, _, World.drewN_drewN _ _ _⟩ | exact ⟨rfl, _, Eq.trans (World.drewN_drewN _ _ _) (congrArg (World.drewN _) (Nat.add_assoc _ _ _))⟩))))
       (try simp only [Act.put, List.setIfInBounds_toArray, List.set_cons_zero, List.set_cons_succ])
       go_cut [58] (fun v58 wc => ∃ (kq : Nat) (x58_23 : Bool), v58 = .bool x58_23 ∧ Aside0 (spec_flOther.j2 kq a0 l1 x8_1 x58_23 a2_0 a2_1 x183000_1 x183001_1 = some (r1, r2)) ∧ Aside0 (kq ≤ kj10) ∧ Aside0 (wc.heap[gb180]? = some (.cells #[.int .i64 a2_0, .int .i64 a2_1] 38 (0, 0))) ∧ Aside0 (wc.heap[gb181]? = some (.cells #[.int .i64 0, .int .i64 0] 38 (0, 0))) ∧ Aside0 (wc.heap[gb182]? = some (.cells #[.int .i64 x183000_1, .int .i64 x183001_1] 38 (0, 0))) ∧ Aside0 (Below w.heap.size w wc))
       case first =>
        have H := HC24.out
        clear HC24
        replace H := Option.bind_eq_some_iff.mp H
        obtain ⟨t187, A280, H⟩ := H
        replace H : (if t187 = true then ((spec_poJoined.f kj10 a0 l1 t185 t186).bind fun t188 => (spec_flOther.j2 kj10 a0 l1 x8_1 (!t188) a2_0 a2_1 x183000_1 x183001_1)) else (spec_flOther.j2 kj10 a0 l1 x8_1 true a2_0 a2_1 x183000_1 x183001_1)) = some (r1, r2) := H
        have A28 := Aside0.mk A280
        clear A280
        by_cases c29 : t187 = true
        ·subst c29
         replace H : ((spec_poJoined.f kj10 a0 l1 t185 t186).bind fun t188 => (spec_flOther.j2 kj10 a0 l1 x8_1 (!t188) a2_0 a2_1 x183000_1 x183001_1)) = some (r1, r2) := by rw [if_pos rfl] at H; exact H
         replace H := Option.bind_eq_some_iff.mp H
         obtain ⟨t188, A300, H⟩ := H
         replace H : (spec_flOther.j2 kj10 a0 l1 x8_1 (!t188) a2_0 a2_1 x183000_1 x183001_1) = some (r1, r2) := H
         have A30 := Aside0.mk A300
         clear A300
         have H' := Aside0.mk H
         clear H
         go_wp2_with (first | (go_at_call 89; (with_reducible refine (spec_poJoined.calls kj10 a0 _ _ l1 t183 t184 true _ ?side1 ?side2 A28.out).mono ?_); (case side1 => exact cd_ (Kd.C_below HR1.out HB.out)); (case side2 => exact HC1.out); rintro e w31 ⟨rfl, hb⟩; replace BK180 := bb_ BK180 hb; replace BK181 := bb_ BK181 hb; replace BK182 := bb_ BK182 hb; replace HB := Aside0.mk (below_step bls_ hb); (try clear hb); (try clear hb2); (try clear hk); (try clear hi)) | (go_at_call 89; (with_reducible refine (spec_poJoined.calls kj10 a0 _ _ l1 t185 t186 t188 _ ?side1 ?side2 A30.out).mono ?_); (case side1 => exact cd_ (Kd.C_below HR1.out HB.out)); (case side2 => exact HC1.out); rintro e w32 ⟨rfl, hb⟩; replace BK180 := bb_ BK180 hb; replace BK181 := bb_ BK181 hb; replace BK182 := bb_ BK182 hb; replace HB := Aside0.mk (below_step bls_ hb); (try clear hb); (try clear hb2); (try clear hk); (try clear hi)))
         repeat (go_quiet (first | (go_at_call 89; (with_reducible refine (spec_poJoined.calls kj10 a0 _ _ l1 t183 t184 true _ ?side1 ?side2 A28.out).mono ?_); (case side1 => exact cd_ (Kd.C_below HR1.out HB.out)); (case side2 => exact HC1.out); rintro e w31 ⟨rfl, hb⟩; replace BK180 := bb_ BK180 hb; replace BK181 := bb_ BK181 hb; replace BK182 := bb_ BK182 hb; replace HB := Aside0.mk (below_step bls_ hb); (try clear hb); (try clear hb2); (try clear hk); (try clear hi)) | (go_at_call 89; (with_reducible refine (spec_poJoined.calls kj10 a0 _ _ l1 t185 t186 t188 _ ?side1 ?side2 A30.out).mono ?_); (case side1 => exact cd_ (Kd.C_below HR1.out HB.out)); (case side2 => exact HC1.out); rintro e w32 ⟨rfl, hb⟩; replace BK180 := bb_ BK180 hb; replace BK181 := bb_ BK181 hb; replace BK182 := bb_ BK182 hb; replace HB := Aside0.mk (below_step bls_ hb); (try clear hb); (try clear hb2); (try clear hk); (try clear hi))); try go_wp2_with (first | (go_at_call 89; (with_reducible refine (spec_poJoined.calls kj10 a0 _ _ l1 t183 t184 true _ ?side1 ?side2 A28.out).mono ?_); (case side1 => exact cd_ (Kd.C_below HR1.out HB.out)); (case side2 => exact HC1.out); rintro e w31 ⟨rfl, hb⟩; replace BK180 := bb_ BK180 hb; replace BK181 := bb_ BK181 hb; replace BK182 := bb_ BK182 hb; replace HB := Aside0.mk (below_step bls_ hb); (try clear hb); (try clear hb2); (try clear hk); (try clear hi)) | (go_at_call 89; (with_reducible refine (spec_poJoined.calls kj10 a0 _ _ l1 t185 t186 t188 _ ?side1 ?side2 A30.out).mono ?_); (case side1 => exact cd_ (Kd.C_below HR1.out HB.out)); (case side2 => exact HC1.out); rintro e w32 ⟨rfl, hb⟩; replace BK180 := bb_ BK180 hb; replace BK181 := bb_ BK181 hb; replace BK182 := bb_ BK182 hb; replace HB := Aside0.mk (below_step bls_ hb); (try clear hb); (try clear hb2); (try clear hk); (try clear hi))))
         go_meet
         case rel => exact ⟨_, (!t188), rsd_, H', ⟨by have := HK1.out; have := HJ10.out; first | omega | exact Nat.le_refl _⟩, ⟨bk_ BK180.out⟩, ⟨bk_ BK181.out⟩, ⟨bk_ BK182.out⟩, ⟨bls_⟩⟩
        ·replace c29 := Bool.eq_false_iff.mpr c29
         subst c29
         replace H : (spec_flOther.j2 kj10 a0 l1 x8_1 true a2_0 a2_1 x183000_1 x183001_1) = some (r1, r2) := by rw [if_neg (show ¬ (false = true) by decide)] at H; exact H
         have H' := Aside0.mk H
         clear H
         go_wp2_with (first | (go_at_call 89; (with_reducible refine (spec_poJoined.calls kj10 a0 _ _ l1 t183 t184 false _ ?side1 ?side2 A28.out).mono ?_); (case side1 => exact cd_ (Kd.C_below HR1.out HB.out)); (case side2 => exact HC1.out); rintro e w33 ⟨rfl, hb⟩; replace BK180 := bb_ BK180 hb; replace BK181 := bb_ BK181 hb; replace BK182 := bb_ BK182 hb; replace HB := Aside0.mk (below_step bls_ hb); (try clear hb); (try clear hb2); (try clear hk); (try clear hi)))
         repeat (go_quiet (first | (go_at_call 89; (with_reducible refine (spec_poJoined.calls kj10 a0 _ _ l1 t183 t184 false _ ?side1 ?side2 A28.out).mono ?_); (case side1 => exact cd_ (Kd.C_below HR1.out HB.out)); (case side2 => exact HC1.out); rintro e w33 ⟨rfl, hb⟩; replace BK180 := bb_ BK180 hb; replace BK181 := bb_ BK181 hb; replace BK182 := bb_ BK182 hb; replace HB := Aside0.mk (below_step bls_ hb); (try clear hb); (try clear hb2); (try clear hk); (try clear hi))); try go_wp2_with (first | (go_at_call 89; (with_reducible refine (spec_poJoined.calls kj10 a0 _ _ l1 t183 t184 false _ ?side1 ?side2 A28.out).mono ?_); (case side1 => exact cd_ (Kd.C_below HR1.out HB.out)); (case side2 => exact HC1.out); rintro e w33 ⟨rfl, hb⟩; replace BK180 := bb_ BK180 hb; replace BK181 := bb_ BK181 hb; replace BK182 := bb_ BK182 hb; replace HB := Aside0.mk (below_step bls_ hb); (try clear hb); (try clear hb2); (try clear hk); (try clear hi))))
         go_meet
         case rel => exact ⟨_, (true), rsd_, H', ⟨by have := HK1.out; have := HJ10.out; first | omega | exact Nat.le_refl _⟩, ⟨bk_ BK180.out⟩, ⟨bk_ BK181.out⟩, ⟨bk_ BK182.out⟩, ⟨bls_⟩⟩
       case rest =>
        clear HC24
        try clear c1
        try clear c2
        try clear p2
        try clear c6
        try clear p6
        try clear c7
        try clear c8
        try clear c10
        try clear c10b0
        try clear c12
        try clear c12b0
        try clear c12b1
        try clear c13
        try clear c14
        try clear c16
        try clear c17
        try clear c19
        try clear c25
        try clear c26
        try clear c29
        try clear hcz15_0
        try clear hcz15_1
        try clear hcz18_0
        try clear hcz18_1
        try clear hcz27_0
        try clear hcz27_1
        try clear hcz9_0
        try clear hcz9_1
        try clear hfz15_0
        try clear hfz15_1
        try clear hfz18_0
        try clear hfz18_1
        try clear hfz27_0
        try clear hfz27_1
        try clear hfz9_0
        try clear hfz9_1
        try clear p2
        obtain ⟨kq, x58_23, rfl, HA, HJ23, BK180, BK181, BK182, HB⟩ := hcut
        cases kq with
        | zero => exact absurd HA.out (by simp [spec_flOther.j2])
        | succ kj23 =>
         have H := HA.out
         clear HA
         simp only [spec_flOther.j2] at H
         by_cases c34 : x58_23 = true
         ·subst c34
          replace H : (spec_flOther.l0 kj23 a0 l1 (wrap64 (x8_1 + 1)) a2_0 a2_1 x183000_1 x183001_1) = some (r1, r2) := by rw [if_pos rfl] at H; exact H
          have H' := Aside0.mk H
          clear H
          go_wp2
          repeat (go_quiet (fail); try go_wp2)
          go_roundg kj23
          case measure => have := HK1.out; have := HJ10.out; have := HJ23.out; omega
          case rel => exact ⟨(wrap64 (x8_1 + 1)), (x183000_1), (x183001_1), rsd_, H', ⟨by have := HK1.out; have := HJ10.out; have := HJ23.out; omega⟩, ⟨bk_ BK180.out⟩, ⟨bk_ BK181.out⟩, ⟨bk_ BK182.out⟩, ⟨bls_⟩⟩
         ·replace c34 := Bool.eq_false_iff.mpr c34
          subst c34
          replace H : (if x183000_1 < 0 then (spec_flOther.l0 kj23 a0 l1 (wrap64 (x8_1 + 1)) a2_0 a2_1 x8_1 x183001_1) else (spec_flOther.l0 kj23 a0 l1 (wrap64 (x8_1 + 1)) a2_0 a2_1 x183000_1 x8_1)) = some (r1, r2) := by rw [if_neg (show ¬ (false = true) by decide)] at H; exact H
          by_cases c35 : x183000_1 < 0
          ·rw [if_pos c35] at H
           have c35b0 : decide (x183000_1 < 0) = true := decide_eq_true c35
           clear c35
           have H' := Aside0.mk H
           clear H
           have hnb36 := NB182_180.out
           have hnc36 := NB180_182.out
           have hnb37 := NB182_181.out
           have hnc37 := NB181_182.out
           have hcz38_0 := blc_ (.int .i64 x183000_1) BK182 0
           have hcz38_1 := blc_ (.int .i64 x183001_1) BK182 1
           have hfz38_0 := blk_frozen BK182.out 0
           have hfz38_1 := blk_frozen BK182.out 1
           go_wp2
           repeat (go_quiet (fail); try go_wp2)
           go_roundg kj23
           case measure => have := HK1.out; have := HJ10.out; have := HJ23.out; omega
           case rel => exact ⟨(wrap64 (x8_1 + 1)), (x8_1), (x183001_1), rsd_, H', ⟨by have := HK1.out; have := HJ10.out; have := HJ23.out; omega⟩, ⟨by (with_reducible repeat (first | refine blk_drewN ?_ _ | refine blk_drew ?_ | refine blk_alloc ?_ _)); refine blk_far ?_ NB180_182.out _; (with_reducible repeat (first | refine blk_drewN ?_ _ | refine blk_drew ?_ | refine blk_alloc ?_ _)); exact BK180.out⟩, ⟨by (with_reducible repeat (first | refine blk_drewN ?_ _ | refine blk_drew ?_ | refine blk_alloc ?_ _)); refine blk_far ?_ NB181_182.out _; (with_reducible repeat (first | refine blk_drewN ?_ _ | refine blk_drew ?_ | refine blk_alloc ?_ _)); exact BK181.out⟩, ⟨by (with_reducible repeat (first | refine blk_drewN ?_ _ | refine blk_drew ?_ | refine blk_alloc ?_ _)); refine blk_put (cs := #[.int .i64 x183000_1, .int .i64 x183001_1]) ?_ 0 _ rfl; (with_reducible repeat (first | refine blk_drewN ?_ _ | refine blk_drew ?_ | refine blk_alloc ?_ _)); exact BK182.out⟩, ⟨bls_⟩⟩
          ·rw [if_neg c35] at H
           have c35b0 : decide (x183000_1 < 0) = false := decide_eq_false c35
           clear c35
           have H' := Aside0.mk H
           clear H
           have hnb39 := NB182_180.out
           have hnc39 := NB180_182.out
           have hnb40 := NB182_181.out
           have hnc40 := NB181_182.out
           have hcz41_0 := blc_ (.int .i64 x183000_1) BK182 0
           have hcz41_1 := blc_ (.int .i64 x183001_1) BK182 1
           have hfz41_0 := blk_frozen BK182.out 0
           have hfz41_1 := blk_frozen BK182.out 1
           go_wp2
           repeat (go_quiet (fail); try go_wp2)
           go_roundg kj23
           case measure => have := HK1.out; have := HJ10.out; have := HJ23.out; omega
           case rel => exact ⟨(wrap64 (x8_1 + 1)), (x183000_1), (x8_1), rsd_, H', ⟨by have := HK1.out; have := HJ10.out; have := HJ23.out; omega⟩, ⟨by (with_reducible repeat (first | refine blk_drewN ?_ _ | refine blk_drew ?_ | refine blk_alloc ?_ _)); refine blk_far ?_ NB180_182.out _; (with_reducible repeat (first | refine blk_drewN ?_ _ | refine blk_drew ?_ | refine blk_alloc ?_ _)); exact BK180.out⟩, ⟨by (with_reducible repeat (first | refine blk_drewN ?_ _ | refine blk_drew ?_ | refine blk_alloc ?_ _)); refine blk_far ?_ NB181_182.out _; (with_reducible repeat (first | refine blk_drewN ?_ _ | refine blk_drew ?_ | refine blk_alloc ?_ _)); exact BK181.out⟩, ⟨by (with_reducible repeat (first | refine blk_drewN ?_ _ | refine blk_drew ?_ | refine blk_alloc ?_ _)); refine blk_put (cs := #[.int .i64 x183000_1, .int .i64 x183001_1]) ?_ 1 _ rfl; (with_reducible repeat (first | refine blk_drewN ?_ _ | refine blk_drew ?_ | refine blk_alloc ?_ _)); exact BK182.out⟩, ⟨bls_⟩⟩
   ·rw [if_neg c10] at H
    have c10b0 : decide (x8_1 < a0) = false := decide_eq_false c10
    clear c10
    simp only [Option.some.injEq, Prod.mk.injEq] at H
    obtain ⟨rfl, rfl⟩ := H
    have hnb42 := NB182_180.out
    have hnc42 := NB180_182.out
    have hnb43 := NB182_181.out
    have hnc43 := NB181_182.out
    have hcz44_0 := blc_ (.int .i64 x183000_1) BK182 0
    have hcz44_1 := blc_ (.int .i64 x183001_1) BK182 1
    have hfz44_0 := blk_frozen BK182.out 0
    have hfz44_1 := blk_frozen BK182.out 1
    have hnb45 := NB181_180.out
    have hnc45 := NB180_181.out
    have hcz46_0 := blc_ (.int .i64 0) BK181 0
    have hcz46_1 := blc_ (.int .i64 0) BK181 1
    have hfz46_0 := blk_frozen BK181.out 0
    have hfz46_1 := blk_frozen BK181.out 1
    go_wp2
    repeat (go_quiet (fail); try go_wp2)
    refine bodyPost_ret (results_cell_row rfl _ _ gb181 38 #[.int .i64 x183000_1, .int .i64 x183001_1] (0, 0) _ rfl (by (with_reducible repeat (first | refine blk_drewN ?_ _ | refine blk_drew ?_ | refine blk_alloc ?_ _)); refine blk_put (cs := #[.int .i64 x183000_1, .int .i64 0]) ?_ 1 _ rfl; (with_reducible repeat (first | refine blk_drewN ?_ _ | refine blk_drew ?_ | refine blk_alloc ?_ _)); refine blk_put (cs := #[.int .i64 0, .int .i64 0]) ?_ 0 _ rfl; (with_reducible repeat (first | refine blk_drewN ?_ _ | refine blk_drew ?_ | refine blk_alloc ?_ _)); exact BK181.out) Tryz.underlying38 rfl (by kernel_rfl)) rfl ?_
    exact er_

/-! ### spec_flMake: function 55 -/
def spec_flMake.l0 : Nat → Int → List (S38) → List (S38) → List (S38) → Int → Int → Int → Int → Option ((List (S38)))
 | 0, _, _, _, _, _, _, _, _ => none
 | k + 1, x0, x1, x7, x10, x11, x12, x190000, x190001 => if x12 < x11 then (if 0 ≤ x12 then (if x12 < (x10.length : Int) then (if (!(((rd_T38 x10 x12).f0) == x190000) || (!(((rd_T38 x10 x12).f1) == x190001))) = true then (if x7.length < 8796093022208 then (spec_flMake.l0 k x0 x1 (x7 ++ [(⟨(rd_T38 x10 x12).f0, (rd_T38 x10 x12).f1⟩ : S38)]) x10 x11 (wrap64 (x12 + 1)) x190000 x190001) else (none)) else (spec_flMake.l0 k x0 x1 x7 x10 x11 (wrap64 (x12 + 1)) x190000 x190001)) else (none)) else (none)) else ((spec_flOther.f k x0 x1 x190000 x190001).bind fun bt195 => (if x7.length < 8796093022208 then ((spec_poSorted.f k (x7 ++ [(⟨bt195.1, bt195.2⟩ : S38)])).bind fun t200 => (some t200)) else (none)))
def spec_flMake.f (k : Nat) (a0 : Int) (l1 : List (S38)) (a2_0 : Int) (a2_1 : Int) : Option ((List (S38))) := spec_flMake.l0 k a0 l1 ([] : List (S38)) l1 (l1.length : Int) 0 a2_0 a2_1
theorem spec_flMake.mono_l : ∀ k, (∀ y0 y1 y2 y3 y4 y5 y6 y7, LeO (spec_flMake.l0 k y0 y1 y2 y3 y4 y5 y6 y7) (spec_flMake.l0 (k + 1) y0 y1 y2 y3 y4 y5 y6 y7))
 | 0 => fun _ _ _ _ _ _ _ _ r h => by simp [spec_flMake.l0] at h
 | k + 1 => by
  have ih0 := spec_flMake.mono_l k
  ·intro y0 y1 y2 y3 y4 y5 y6 y7
   unfold spec_flMake.l0
   repeat' first
   | (with_reducible exact ih0 _ _ _ _ _ _ _ _)
   | (with_reducible exact spec_flOther.mono _ _ _ _ _)
   | (with_reducible exact spec_poSorted.mono _ _)
   | (with_reducible exact LeO.refl _)
   | (with_reducible exact LeO.none _)
   | (with_reducible refine LeO.ite ?_ ?_)
   | (with_reducible refine LeO.bind ?_ (fun _ => ?_))
   | exact ih0 _ _ _ _ _ _ _ _
   | exact spec_flOther.mono _ _ _ _ _
   | exact spec_poSorted.mono _ _
   | exact LeO.none _
   | refine LeO.ite ?_ ?_
   | refine LeO.bind ?_ (fun _ => ?_)
theorem spec_flMake.mono : ∀ a0 a1 a2 a3 k, LeO (spec_flMake.f k a0 a1 a2 a3) (spec_flMake.f (k + 1) a0 a1 a2 a3) := by
 intro a0 a1 a2 a3 k
 have ih0 := spec_flMake.mono_l k
 unfold spec_flMake.f
 repeat' first
   | (with_reducible exact ih0 _ _ _ _ _ _ _ _)
   | (with_reducible exact spec_flOther.mono _ _ _ _ _)
   | (with_reducible exact spec_poSorted.mono _ _)
   | (with_reducible exact LeO.refl _)
   | (with_reducible exact LeO.none _)
   | (with_reducible refine LeO.ite ?_ ?_)
   | (with_reducible refine LeO.bind ?_ (fun _ => ?_))
   | exact ih0 _ _ _ _ _ _ _ _
   | exact spec_flOther.mono _ _ _ _ _
   | exact spec_poSorted.mono _ _
   | exact LeO.none _
   | refine LeO.ite ?_ ?_
   | refine LeO.bind ?_ (fun _ => ?_)
set_option maxHeartbeats 8000000 in
set_option maxRecDepth 100000 in
theorem spec_flMake.calls (k : Nat) (a0 : Int) (A1 : Option Addr) (c1 : Nat) (l1 : List (S38)) (a2_0 : Int) (a2_1 : Int) (r : List (S38)) (w : World) (hr1 : Kd.C k38 w A1 l1.length l1) (hc1 : l1.length ≤ c1) (h : spec_flMake.f k a0 l1 a2_0 a2_1 = some r) :
  Calls Tryz.prog 55 #[.int .i64 a0, .slice A1 l1.length c1, .agg #[.int .i64 a2_0, .int .i64 a2_1]] w fun e w' => ∃ v0_ : Value, e = .returned (v0_) ∧ Kd.R k38 38 w' w.heap.size (fun _ => True) v0_ r ∧ Below w.heap.size w w' := by
 have hu38 := Tryz.underlying38
 have HR1 := Aside0.mk hr1
 have HC1 := Aside0.mk hc1
 clear hr1 hc1
 have HB := Aside0.mk (Below.refl w.heap.size w)
 have H : (spec_flMake.l0 k a0 l1 ([] : List (S38)) l1 (l1.length : Int) 0 a2_0 a2_1) = some r := h
 clear h
 have H' := Aside0.mk H
 clear H
 go_enter Tryz.func55, Tryz.ntmps55
 go_wp2_with (first | ((with_reducible refine gate_dst (N := 5) rfl ?_); refine bxe_ 5 #[.int .i64 a2_0, .int .i64 a2_1] 38 ?_; intro gb189 hg w4 hbox hb; have BK189 := Aside0.mk (hbox); have GW189 := gz_ w hg; have GE189 := gz_ w hg; replace HB := Aside0.mk (below_step blw_ hb); clear hb hbox hg))
 go_loopg [7, 12] k (fun kq v7 v12 w' => ∃ (x7_1 : List (S38)) (x12_1 : Int), v12 = .int .i64 x12_1 ∧ Aside0 (spec_flMake.l0 kq a0 l1 x7_1 l1 (l1.length : Int) x12_1 a2_0 a2_1 = some r) ∧ Aside0 (kq ≤ k) ∧ Aside0 (Kd.R k38 38 w' w.heap.size (fun k_ => k_ ≠ gb189) v7 x7_1) ∧ Aside0 (w'.heap[gb189]? = some (.cells #[.int .i64 a2_0, .int .i64 a2_1] 38 (0, 0))) ∧ Aside0 (Below w.heap.size w w'))
 case atStart => exact ⟨(([] : List (S38))), (0), rsd_, H', ⟨Nat.le_refl _⟩, ⟨by first | exact Kd.R_nil _ _ _ _ _ | exact Kd.N_nil _ _ _ _ _ | exact Kd.V_nil _ _ _ _ _ | exact Kd.Q_nil _ _ _ _ _ | exact Kd.S_nil _ _ _ _ _⟩, ⟨bk_ BK189.out⟩, ⟨bls_⟩⟩
 case round =>
  clear H'
  try clear c1
  try clear p2
  try clear HO_7
  obtain ⟨x7_1, x12_1, rfl, HA, HK1, HO_7, BK189, HB⟩ := hrel
  cases gk with
  | zero => exact absurd HA.out (by simp [spec_flMake.l0])
  | succ k1 =>
   have H := HA.out
   clear HA
   simp only [spec_flMake.l0] at H
   by_cases c5 : x12_1 < (l1.length : Int)
   ·rw [if_pos c5] at H
    have c5b0 : decide (x12_1 < (l1.length : Int)) = true := decide_eq_true c5
    clear c5
    by_cases c6 : 0 ≤ x12_1
    case neg=>rw [if_neg c6] at H;exact absurd H (by simp)
    rw [if_pos c6] at H
    have c6b0 : decide (0 ≤ x12_1) = true := decide_eq_true c6
    clear c6
    by_cases c7 : x12_1 < (l1.length : Int)
    case neg=>rw [if_neg c7] at H;exact absurd H (by simp)
    rw [if_pos c7] at H
    have c7b0 : decide (x12_1 < (l1.length : Int)) = true := decide_eq_true c7
    clear c7
    by_cases c8 : (!(((rd_T38 l1 x12_1).f0) == a2_0) || (!(((rd_T38 l1 x12_1).f1) == a2_1))) = true
    ·rw [if_pos c8] at H
     have c8b0 : (!(((rd_T38 l1 x12_1).f0) == a2_0) || (!(((rd_T38 l1 x12_1).f1) == a2_1))) = true := c8
     clear c8
     by_cases c9 : x7_1.length < 8796093022208
     case neg=>rw [if_neg c9] at H;exact absurd H (by simp)
     rw [if_pos c9] at H
     have LMc9 := Aside0.mk c9
     clear c9
     obtain ⟨y192, hy192⟩ : ∃ y_ : List (S38), y_ = (x7_1 ++ [(⟨(rd_T38 l1 x12_1).f0, (rd_T38 l1 x12_1).f1⟩ : S38)]) := ⟨_, rfl⟩
     replace H : (spec_flMake.l0 k1 a0 l1 y192 l1 (l1.length : Int) (wrap64 (x12_1 + 1)) a2_0 a2_1) = some r := hyy_ hy192 H
     have Ny192 := Aside0.mk hy192
     clear hy192
     have H' := Aside0.mk H
     clear H
     have p190 : 0 ≤ (x12_1 : Int) := odt_
     have q190 : x12_1 < (l1.length : Int) := odt_
     obtain ⟨ad190, e190, hx190_0, hx190_1⟩ := at_T38 HR1.out x12_1 p190 q190
     cases e190
     (first | replace hx190_0 := (HB.out.cell (World.block_lt_of_cell? w _ hx190_0)).trans hx190_0 | skip)
     (first | replace hx190_1 := (HB.out.cell (World.block_lt_of_cell? w _ hx190_1)).trans hx190_1 | skip)
     replace p190 := eq_true p190
     replace q190 := eq_true q190
     go_wp2_with (first | ((with_reducible refine gate_dst (N := 9) rfl ?_); refine bxe_ 9 #[.int .i64 0, .int .i64 0] 38 ?_; intro gb191 hg w10 hbox hb; have BK191 := Aside0.mk (hbox); have GW191 := gz_ w hg; have GE191 := gz_ w hg; have NB189_191 := nb_ BK189 hg; have NB191_189 := nbr_ BK189 hg; replace HO_7 := Aside0.mk (Kd.R_below (Kd.R_elderB (ra_ HO_7.out) gb191 (Nat.le_of_eq hg.symm)) hb); replace BK189 := bb_ BK189 hb; replace HB := Aside0.mk (below_step bls_ hb); clear hb hbox hg; have hnb11 := NB191_189.out; have hnc11 := NB189_191.out; have hcz12_0 := blc_ (.int .i64 0) BK191 0; have hcz12_1 := blc_ (.int .i64 0) BK191 1; have hfz12_0 := blk_frozen BK191.out 0; have hfz12_1 := blk_frozen BK191.out 1; have hcz13_0 := blc_ (.int .i64 a2_0) BK189 0; have hcz13_1 := blc_ (.int .i64 a2_1) BK189 1; have hfz13_0 := blk_frozen BK189.out 0; have hfz13_1 := blk_frozen BK189.out 1) | ((with_reducible refine gate_builtin (b := .append) (xs := #[.tmp 19, .tmp 21]) rfl ?_); at_builtin; refine Kd.R_append k38 (w0 := w) w.heap.size rfl (.tmp 19) (.tmp 21) 27 38 (.agg #[(.int .i64 0), (.int .i64 0)]) 16 rfl Tryz.underlying27 info38 rfl (by decide) (by omega) u7 x7_1 (⟨(rd_T38 l1 x12_1).f0, (rd_T38 l1 x12_1).f1⟩ : S38) [.int .i64 ((rd_T38 l1 x12_1).f0), .int .i64 ((rd_T38 l1 x12_1).f1)] (fun k_ => k_ ≠ gb189 ∧ k_ ≠ gb191) (fun _ => False) rfl (by first | (go_simp; done) | (go_simp; rfl)) ?aP (fun _ hk => hk.elim) ?aF ?aO ?aB ?aS ?aL ?_; (case aP => exact k38_mkM _ _ _ (⟨(rd_T38 l1 x12_1).f0, (rd_T38 l1 x12_1).f1⟩ : S38)); (case aB => exact bls_); (case aF => exact (fun k_ hk => ⟨Kd.freshB (g := gb189) (o := .cells #[.int .i64 a2_0, .int .i64 a2_1] 38 (0, 0)) (by (with_reducible repeat (first | refine blk_drewN ?_ _ | refine blk_drew ?_ | refine blk_alloc ?_ _)); refine blk_far ?_ NB189_191.out _; (with_reducible repeat (first | refine blk_drewN ?_ _ | refine blk_drew ?_ | refine blk_alloc ?_ _)); refine blk_far ?_ NB189_191.out _; (with_reducible repeat (first | refine blk_drewN ?_ _ | refine blk_drew ?_ | refine blk_alloc ?_ _)); exact BK189.out) k_ hk, Kd.freshB (g := gb191) (o := .cells #[.int .i64 ((rd_T38 l1 x12_1).f0), .int .i64 ((rd_T38 l1 x12_1).f1)] 38 (0, 0)) (by (with_reducible repeat (first | refine blk_drewN ?_ _ | refine blk_drew ?_ | refine blk_alloc ?_ _)); refine blk_put (cs := #[.int .i64 ((rd_T38 l1 x12_1).f0), .int .i64 0]) ?_ 1 _ rfl; (with_reducible repeat (first | refine blk_drewN ?_ _ | refine blk_drew ?_ | refine blk_alloc ?_ _)); refine blk_put (cs := #[.int .i64 0, .int .i64 0]) ?_ 0 _ rfl; (with_reducible repeat (first | refine blk_drewN ?_ _ | refine blk_drew ?_ | refine blk_alloc ?_ _)); exact BK191.out) k_ hk⟩)); (case aO => exact (by (with_reducible repeat (first | apply Kd.R_alloc | apply Kd.R_drewN | apply Kd.R_drew)); exact Kd.R_mono (Kd.R_far (p := ⟨gb191, 1, none⟩) (Kd.R_far (p := ⟨gb191, 0, none⟩) (Kd.R_mono HO_7.out (fun k_ hk => (⟨hk, hk.2⟩ : _ ∧ k_ ≠ gb191))) (fun _ hk => hk.2) (.int .i64 ((rd_T38 l1 x12_1).f0))) (fun _ hk => hk.2) (.int .i64 ((rd_T38 l1 x12_1).f1))) (fun _ hk => ⟨hk.1.1, hk.1.2⟩))); (case aS => exact (below_size bls_)); (case aL => have := LMc9.out; omega); intro v193 w14 ho hb hg hat; rw [← Ny192.out] at ho; have HO194 := Aside0.mk (ho); replace BK189 := Aside0.mk (blk_grown (g := gb189) (o := .cells #[.int .i64 a2_0, .int .i64 a2_1] 38 (0, 0)) (by (with_reducible repeat (first | refine blk_drewN ?_ _ | refine blk_drew ?_ | refine blk_alloc ?_ _)); refine blk_far ?_ NB189_191.out _; (with_reducible repeat (first | refine blk_drewN ?_ _ | refine blk_drew ?_ | refine blk_alloc ?_ _)); refine blk_far ?_ NB189_191.out _; (with_reducible repeat (first | refine blk_drewN ?_ _ | refine blk_drew ?_ | refine blk_alloc ?_ _)); exact BK189.out) hg (Kd.R_away HO_7.out (fun _ hk => hk.1))); replace BK191 := Aside0.mk (blk_grown (g := gb191) (o := .cells #[.int .i64 ((rd_T38 l1 x12_1).f0), .int .i64 ((rd_T38 l1 x12_1).f1)] 38 (0, 0)) (by (with_reducible repeat (first | refine blk_drewN ?_ _ | refine blk_drew ?_ | refine blk_alloc ?_ _)); refine blk_put (cs := #[.int .i64 ((rd_T38 l1 x12_1).f0), .int .i64 0]) ?_ 1 _ rfl; (with_reducible repeat (first | refine blk_drewN ?_ _ | refine blk_drew ?_ | refine blk_alloc ?_ _)); refine blk_put (cs := #[.int .i64 0, .int .i64 0]) ?_ 0 _ rfl; (with_reducible repeat (first | refine blk_drewN ?_ _ | refine blk_drew ?_ | refine blk_alloc ?_ _)); exact BK191.out) hg (Kd.R_away HO_7.out (fun _ hk => hk.2))); replace HB := Aside0.mk (hb); clear HO_7; clear ho hb hg hat))
     go_roundg k1
     case measure => have := HK1.out; omega
     case rel => exact ⟨(y192), (wrap64 (x12_1 + 1)), rsd_, H', ⟨by have := HK1.out; omega⟩, ⟨by (with_reducible repeat (first | apply Kd.R_alloc | apply Kd.R_drewN | apply Kd.R_drew)); exact Kd.R_mono HO194.out (fun _ hk => hk.1)⟩, ⟨bk_ BK189.out⟩, ⟨bls_⟩⟩
    ·rw [if_neg c8] at H
     have c8b0 : (!(((rd_T38 l1 x12_1).f0) == a2_0) || (!(((rd_T38 l1 x12_1).f1) == a2_1))) = false := by simpa using c8
     clear c8
     have H' := Aside0.mk H
     clear H
     have p190 : 0 ≤ (x12_1 : Int) := odt_
     have q190 : x12_1 < (l1.length : Int) := odt_
     obtain ⟨ad190, e190, hx190_0, hx190_1⟩ := at_T38 HR1.out x12_1 p190 q190
     cases e190
     (first | replace hx190_0 := (HB.out.cell (World.block_lt_of_cell? w _ hx190_0)).trans hx190_0 | skip)
     (first | replace hx190_1 := (HB.out.cell (World.block_lt_of_cell? w _ hx190_1)).trans hx190_1 | skip)
     replace p190 := eq_true p190
     replace q190 := eq_true q190
     go_wp2_with (first | ((with_reducible refine gate_dst (N := 9) rfl ?_); refine bxe_ 9 #[.int .i64 0, .int .i64 0] 38 ?_; intro gb191 hg w15 hbox hb; have BK191 := Aside0.mk (hbox); have GW191 := gz_ w hg; have GE191 := gz_ w hg; have NB189_191 := nb_ BK189 hg; have NB191_189 := nbr_ BK189 hg; replace HO_7 := Aside0.mk (Kd.R_below (Kd.R_elderB (ra_ HO_7.out) gb191 (Nat.le_of_eq hg.symm)) hb); replace BK189 := bb_ BK189 hb; replace HB := Aside0.mk (below_step bls_ hb); clear hb hbox hg; have hnb16 := NB191_189.out; have hnc16 := NB189_191.out; have hcz17_0 := blc_ (.int .i64 0) BK191 0; have hcz17_1 := blc_ (.int .i64 0) BK191 1; have hfz17_0 := blk_frozen BK191.out 0; have hfz17_1 := blk_frozen BK191.out 1; have hcz18_0 := blc_ (.int .i64 a2_0) BK189 0; have hcz18_1 := blc_ (.int .i64 a2_1) BK189 1; have hfz18_0 := blk_frozen BK189.out 0; have hfz18_1 := blk_frozen BK189.out 1))
     go_roundg k1
     case measure => have := HK1.out; omega
     case rel => exact ⟨(x7_1), (wrap64 (x12_1 + 1)), rsd_, H', ⟨by have := HK1.out; omega⟩, ⟨by (with_reducible repeat (first | apply Kd.R_alloc | apply Kd.R_drewN | apply Kd.R_drew)); exact Kd.R_mono (Kd.R_far (p := ⟨gb191, 1, none⟩) (Kd.R_far (p := ⟨gb191, 0, none⟩) (Kd.R_mono HO_7.out (fun k_ hk => (⟨hk, hk.2⟩ : _ ∧ k_ ≠ gb191))) (fun _ hk => hk.2) (.int .i64 ((rd_T38 l1 x12_1).f0))) (fun _ hk => hk.2) (.int .i64 ((rd_T38 l1 x12_1).f1))) (fun _ hk => hk.1.1)⟩, ⟨by (with_reducible repeat (first | refine blk_drewN ?_ _ | refine blk_drew ?_ | refine blk_alloc ?_ _)); refine blk_far ?_ NB189_191.out _; (with_reducible repeat (first | refine blk_drewN ?_ _ | refine blk_drew ?_ | refine blk_alloc ?_ _)); refine blk_far ?_ NB189_191.out _; (with_reducible repeat (first | refine blk_drewN ?_ _ | refine blk_drew ?_ | refine blk_alloc ?_ _)); exact BK189.out⟩, ⟨bls_⟩⟩
   ·rw [if_neg c5] at H
    have c5b0 : decide (x12_1 < (l1.length : Int)) = false := decide_eq_false c5
    clear c5
    replace H := Option.bind_eq_some_iff.mp H
    obtain ⟨⟨t195, t196⟩, A190, H⟩ := H
    replace H : (if x7_1.length < 8796093022208 then ((spec_poSorted.f k1 (x7_1 ++ [(⟨t195, t196⟩ : S38)])).bind fun t200 => (some t200)) else (none)) = some r := H
    have A19 := Aside0.mk A190
    clear A190
    by_cases c20 : x7_1.length < 8796093022208
    case neg=>rw [if_neg c20] at H;exact absurd H (by simp)
    rw [if_pos c20] at H
    have LMc20 := Aside0.mk c20
    clear c20
    obtain ⟨y197, hy197⟩ : ∃ y_ : List (S38), y_ = (x7_1 ++ [(⟨t195, t196⟩ : S38)]) := ⟨_, rfl⟩
    replace H : ((spec_poSorted.f k1 y197).bind fun t200 => (some t200)) = some r := hyy_ hy197 H
    have Ny197 := Aside0.mk hy197
    clear hy197
    replace H := Option.bind_eq_some_iff.mp H
    obtain ⟨t200, A210, H⟩ := H
    replace H : (some t200) = some r := H
    have A21 := Aside0.mk A210
    clear A210
    obtain rfl := Option.some.inj H
    have hcz22_0 := blc_ (.int .i64 a2_0) BK189 0
    have hcz22_1 := blc_ (.int .i64 a2_1) BK189 1
    have hfz22_0 := blk_frozen BK189.out 0
    have hfz22_1 := blk_frozen BK189.out 1
    go_wp2_with (first | ((with_reducible refine gate_callee (f := 67) rfl ?_); refine goesL_ (some 28) rfl rfl Tryz.func67 (by kernel_rfl) rfl #[.int .i64 a0, .slice A1 l1.length c1, .agg #[.int .i64 a2_0, .int .i64 a2_1]] rfl amp_ ?_; (with_reducible refine (spec_flOther.calls k1 a0 _ _ l1 a2_0 a2_1 t195 t196 _ ?side1 ?side2 A19.out).mono ?_); (case side1 => exact cd_ (Kd.C_below HR1.out HB.out)); (case side2 => exact HC1.out); rintro e w23 ⟨rfl, hb⟩; refine ⟨_, rfl, ?_⟩; replace HO_7 := Aside0.mk (Kd.R_below (ra_ HO_7.out) hb); replace BK189 := bb_ BK189 hb; replace HB := Aside0.mk (below_step bls_ hb); (try clear hb); (try clear hb2); (try clear hk); (try clear hi)) | ((with_reducible refine gate_builtin (b := .append) (xs := #[.tmp 24, .tmp 29]) rfl ?_); at_builtin; refine Kd.R_append k38 (w0 := w) w.heap.size rfl (.tmp 24) (.tmp 29) 27 38 (.agg #[(.int .i64 0), (.int .i64 0)]) 16 rfl Tryz.underlying27 info38 rfl (by decide) (by omega) u7 x7_1 (⟨t195, t196⟩ : S38) [.int .i64 t195, .int .i64 t196] (fun k_ => k_ ≠ gb189) (fun _ => False) rfl rfl ?aP (fun _ hk => hk.elim) ?aF ?aO ?aB ?aS ?aL ?_; (case aP => exact k38_mkM _ _ _ (⟨t195, t196⟩ : S38)); (case aB => exact bls_); (case aF => exact (fun k_ hk => Kd.freshB (g := gb189) (o := .cells #[.int .i64 a2_0, .int .i64 a2_1] 38 (0, 0)) (bk_ BK189.out) k_ hk)); (case aO => exact (ra_ HO_7.out)); (case aS => exact (below_size bls_)); (case aL => have := LMc20.out; omega); intro v198 w24 ho hb hg hat; rw [← Ny197.out] at ho; have HO199 := Aside0.mk (ho); replace BK189 := Aside0.mk (blk_grown (g := gb189) (o := .cells #[.int .i64 a2_0, .int .i64 a2_1] 38 (0, 0)) (bk_ BK189.out) hg (Kd.R_away HO_7.out (fun _ hk => hk))); replace HB := Aside0.mk (hb); clear HO_7; clear ho hb hg hat; obtain ⟨Ao25, co25, eo25⟩ := Kd.R_slice HO199.out; subst eo25) | ((with_reducible refine gate_callee (f := 66) rfl ?_); refine goesL_ (some 31) rfl rfl Tryz.func66 (by kernel_rfl) rfl #[.slice Ao25 y197.length co25] rfl amp_ ?_; (with_reducible refine (spec_poSorted.calls k1 _ _ y197 t200 _ ?side1 ?side2 A21.out).mono ?_); (case side1 => exact cd_ (Kd.R_reads' HO199.out).2.2); (case side2 => exact (Kd.R_reads' HO199.out).2.1); rintro e w26 ⟨v201, rfl, ho0, hb⟩; refine ⟨_, rfl, ?_⟩; have HO202 := Aside0.mk (Kd.R_lower (Kd.R_newB (Kd.R_new' ho0 (Kd.R_lt (ra_ HO199.out))) (g := gb189) (o := .cells #[.int .i64 a2_0, .int .i64 a2_1] 38 (0, 0)) (bk_ BK189.out)) (below_size bls_)); replace HO199 := Aside0.mk (Kd.R_elder' (ra_ HO199.out) (Kd.R_base ho0) hb); replace BK189 := bb_ BK189 hb; replace HB := Aside0.mk (below_step bls_ hb); (try clear hb); (try clear hb2); (try clear hk); (try clear hi); (try clear ho0)))
    go_ret
    exact ⟨_, by first | rfl | (simp [errW_none, errW_some] <;> rfl) | (simp [*, errW_none, errW_some] <;> rfl), by (with_reducible repeat (first | apply Kd.R_alloc | apply Kd.R_drewN | apply Kd.R_drew)); exact Kd.R_mono HO202.out (fun _ hk => trivial), bls_⟩

end Go.Proofs.YtgblginphicacaaGreatDoor.PFnExactCountByFlips
