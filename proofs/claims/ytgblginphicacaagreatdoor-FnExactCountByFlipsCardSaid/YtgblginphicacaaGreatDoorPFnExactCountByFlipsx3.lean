-- WRITTEN BY A PROGRAM OF THIS WORK (wip/tools/ppatch.py) for this claim.
import Derived.Test.YtgblginphicacaaGreatDoorPFnExactCountByFlipsx0
import Derived.Test.YtgblginphicacaaGreatDoorPFnExactCountByFlipsx2
namespace Go.Proofs.YtgblginphicacaaGreatDoor.PFnExactCountByFlips
open Go.RowKit Go.Proofs.YtgblginphicacaaGreatDoorW.PrintWords Go.Proofs.YtgblginphicacaaGreatDoorW.PrintLast Go.Proofs.YtgblginphicacaaGreatDoorW.PrintMore
attribute [local go_sem] max2_int min2_int max_two min_two max_three min_three max_four min_four   -- for this text's walks alone
set_option linter.unusedVariables false
set_option linter.unusedSimpArgs false

/-! ### spec_poGood: function 21 -/
mutual
def spec_poGood.j0 : Nat → Int → List (S38) → Bool → Option (Bool)
 | 0, _, _, _ => none
 | k + 1, x0, x1, x18 => if x18 = true then (some false) else (spec_poGood.l0 k x0 x1 x1 (x1.length : Int) 0)
def spec_poGood.l0 : Nat → Int → List (S38) → List (S38) → Int → Int → Option (Bool)
 | 0, _, _, _, _, _ => none
 | k + 1, x0, x1, x19, x20, x21 => if x21 < x20 then (if 0 ≤ x21 then (if x21 < (x19.length : Int) then ((spec_poDiagonal.f x0 ((rd_T38 x19 x21).f0) ((rd_T38 x19 x21).f1)).bind fun t113 => (if t113 = true then (if x21 > 0 then (if 0 ≤ (wrap64 (x21 - 1)) then (if (wrap64 (x21 - 1)) < (x1.length : Int) then ((spec_poLess.f ((rd_T38 x1 (wrap64 (x21 - 1))).f0) ((rd_T38 x1 (wrap64 (x21 - 1))).f1) ((rd_T38 x19 x21).f0) ((rd_T38 x19 x21).f1)).bind fun t115 => (spec_poGood.j2 k x0 x1 x21 x19 x20 x21 (!t115) ((rd_T38 x19 x21).f0) ((rd_T38 x19 x21).f1))) else (none)) else (none)) else (spec_poGood.j2 k x0 x1 x21 x19 x20 x21 false ((rd_T38 x19 x21).f0) ((rd_T38 x19 x21).f1))) else (spec_poGood.j2 k x0 x1 x21 x19 x20 x21 true ((rd_T38 x19 x21).f0) ((rd_T38 x19 x21).f1)))) else (none)) else (none)) else (some true)
def spec_poGood.j2 : Nat → Int → List (S38) → Int → List (S38) → Int → Int → Bool → Int → Int → Option (Bool)
 | 0, _, _, _, _, _, _, _, _, _ => none
 | k + 1, x0, x1, x5, x19, x20, x21, x43, x113000, x113001 => if x43 = true then (some false) else (if 0 ≤ x5 then (if x5 ≤ (x1.length : Int) then ((some (x1.take (x5 : Int).toNat : List (S38))).bind fun y116 => (spec_poGood.l1 k x0 x1 x19 x20 x21 y116 (y116.length : Int) 0 x113000 x113001)) else (none)) else (none))
def spec_poGood.l1 : Nat → Int → List (S38) → List (S38) → Int → Int → List (S38) → Int → Int → Int → Int → Option (Bool)
 | 0, _, _, _, _, _, _, _, _, _, _ => none
 | k + 1, x0, x1, x19, x20, x21, x46, x47, x48, x113000, x113001 => if x48 < x47 then (if 0 ≤ x48 then (if x48 < (x46.length : Int) then ((spec_poCross.f x113000 x113001 ((rd_T38 x46 x48).f0) ((rd_T38 x46 x48).f1)).bind fun t122 => (if t122 = true then (some false) else (spec_poGood.l1 k x0 x1 x19 x20 x21 x46 x47 (wrap64 (x48 + 1)) x113000 x113001))) else (none)) else (none)) else (spec_poGood.l0 k x0 x1 x19 x20 (wrap64 (x21 + 1)))
end
def spec_poGood.f (k : Nat) (a0 : Int) (l1 : List (S38)) : Option (Bool) := (spec_poIs.f a0).bind fun t110 => (if t110 = true then (spec_poGood.j0 k a0 l1 ((l1.length : Int) != (wrap64 (a0 - 3)))) else (spec_poGood.j0 k a0 l1 true))
theorem spec_poGood.mono_l : ∀ k, (∀ y0 y1 y2, LeO (spec_poGood.j0 k y0 y1 y2) (spec_poGood.j0 (k + 1) y0 y1 y2)) ∧ (∀ y0 y1 y2 y3 y4, LeO (spec_poGood.l0 k y0 y1 y2 y3 y4) (spec_poGood.l0 (k + 1) y0 y1 y2 y3 y4)) ∧ (∀ y0 y1 y2 y3 y4 y5 y6 y7 y8, LeO (spec_poGood.j2 k y0 y1 y2 y3 y4 y5 y6 y7 y8) (spec_poGood.j2 (k + 1) y0 y1 y2 y3 y4 y5 y6 y7 y8)) ∧ (∀ y0 y1 y2 y3 y4 y5 y6 y7 y8 y9, LeO (spec_poGood.l1 k y0 y1 y2 y3 y4 y5 y6 y7 y8 y9) (spec_poGood.l1 (k + 1) y0 y1 y2 y3 y4 y5 y6 y7 y8 y9))
 | 0 => ⟨fun _ _ _ r h => by simp [spec_poGood.j0] at h, fun _ _ _ _ _ r h => by simp [spec_poGood.l0] at h, fun _ _ _ _ _ _ _ _ _ r h => by simp [spec_poGood.j2] at h, fun _ _ _ _ _ _ _ _ _ _ r h => by simp [spec_poGood.l1] at h⟩
 | k + 1 => by
  obtain ⟨ih0, ih1, ih2, ih3⟩ := spec_poGood.mono_l k
  refine ⟨?_, ?_, ?_, ?_⟩
  ·intro y0 y1 y2
   unfold spec_poGood.j0
   repeat' first
   | (with_reducible exact ih0 _ _ _)
   | (with_reducible exact ih1 _ _ _ _ _)
   | (with_reducible exact ih2 _ _ _ _ _ _ _ _ _)
   | (with_reducible exact ih3 _ _ _ _ _ _ _ _ _ _)
   | (with_reducible exact LeO.refl _)
   | (with_reducible exact LeO.none _)
   | (with_reducible refine LeO.ite ?_ ?_)
   | (with_reducible refine LeO.bind ?_ (fun _ => ?_))
   | exact ih0 _ _ _
   | exact ih1 _ _ _ _ _
   | exact ih2 _ _ _ _ _ _ _ _ _
   | exact ih3 _ _ _ _ _ _ _ _ _ _
   | exact LeO.none _
   | refine LeO.ite ?_ ?_
   | refine LeO.bind ?_ (fun _ => ?_)
  ·intro y0 y1 y2 y3 y4
   unfold spec_poGood.l0
   repeat' first
   | (with_reducible exact ih0 _ _ _)
   | (with_reducible exact ih1 _ _ _ _ _)
   | (with_reducible exact ih2 _ _ _ _ _ _ _ _ _)
   | (with_reducible exact ih3 _ _ _ _ _ _ _ _ _ _)
   | (with_reducible exact LeO.refl _)
   | (with_reducible exact LeO.none _)
   | (with_reducible refine LeO.ite ?_ ?_)
   | (with_reducible refine LeO.bind ?_ (fun _ => ?_))
   | exact ih0 _ _ _
   | exact ih1 _ _ _ _ _
   | exact ih2 _ _ _ _ _ _ _ _ _
   | exact ih3 _ _ _ _ _ _ _ _ _ _
   | exact LeO.none _
   | refine LeO.ite ?_ ?_
   | refine LeO.bind ?_ (fun _ => ?_)
  ·intro y0 y1 y2 y3 y4 y5 y6 y7 y8
   unfold spec_poGood.j2
   repeat' first
   | (with_reducible exact ih0 _ _ _)
   | (with_reducible exact ih1 _ _ _ _ _)
   | (with_reducible exact ih2 _ _ _ _ _ _ _ _ _)
   | (with_reducible exact ih3 _ _ _ _ _ _ _ _ _ _)
   | (with_reducible exact LeO.refl _)
   | (with_reducible exact LeO.none _)
   | (with_reducible refine LeO.ite ?_ ?_)
   | (with_reducible refine LeO.bind ?_ (fun _ => ?_))
   | exact ih0 _ _ _
   | exact ih1 _ _ _ _ _
   | exact ih2 _ _ _ _ _ _ _ _ _
   | exact ih3 _ _ _ _ _ _ _ _ _ _
   | exact LeO.none _
   | refine LeO.ite ?_ ?_
   | refine LeO.bind ?_ (fun _ => ?_)
  ·intro y0 y1 y2 y3 y4 y5 y6 y7 y8 y9
   unfold spec_poGood.l1
   repeat' first
   | (with_reducible exact ih0 _ _ _)
   | (with_reducible exact ih1 _ _ _ _ _)
   | (with_reducible exact ih2 _ _ _ _ _ _ _ _ _)
   | (with_reducible exact ih3 _ _ _ _ _ _ _ _ _ _)
   | (with_reducible exact LeO.refl _)
   | (with_reducible exact LeO.none _)
   | (with_reducible refine LeO.ite ?_ ?_)
   | (with_reducible refine LeO.bind ?_ (fun _ => ?_))
   | exact ih0 _ _ _
   | exact ih1 _ _ _ _ _
   | exact ih2 _ _ _ _ _ _ _ _ _
   | exact ih3 _ _ _ _ _ _ _ _ _ _
   | exact LeO.none _
   | refine LeO.ite ?_ ?_
   | refine LeO.bind ?_ (fun _ => ?_)
theorem spec_poGood.mono : ∀ a0 a1 k, LeO (spec_poGood.f k a0 a1) (spec_poGood.f (k + 1) a0 a1) := by
 intro a0 a1 k
 obtain ⟨ih0, ih1, ih2, ih3⟩ := spec_poGood.mono_l k
 unfold spec_poGood.f
 repeat' first
   | (with_reducible exact ih0 _ _ _)
   | (with_reducible exact ih1 _ _ _ _ _)
   | (with_reducible exact ih2 _ _ _ _ _ _ _ _ _)
   | (with_reducible exact ih3 _ _ _ _ _ _ _ _ _ _)
   | (with_reducible exact LeO.refl _)
   | (with_reducible exact LeO.none _)
   | (with_reducible refine LeO.ite ?_ ?_)
   | (with_reducible refine LeO.bind ?_ (fun _ => ?_))
   | exact ih0 _ _ _
   | exact ih1 _ _ _ _ _
   | exact ih2 _ _ _ _ _ _ _ _ _
   | exact ih3 _ _ _ _ _ _ _ _ _ _
   | exact LeO.none _
   | refine LeO.ite ?_ ?_
   | refine LeO.bind ?_ (fun _ => ?_)
def spec_poGood.T6 : Bool × List (List Nat × List Nat) := (true, [([], []), ([], []), ([0, 1], [0, 1]), ([2], [2]), ([3, 2], [3]), ([4], [4]), ([5, 4], [4, 5]), ([6, 4, 4], [4, 6]), ([7], [7]), ([7], [7]), ([9, 7], [7, 9]), ([8, 10, 7], [7, 8, 10]), ([11, 7], [7, 11]), ([7], [7]), ([12, 13, 7, 7], [7, 12, 13]), ([14, 7], [7, 14]), ([7, 15, 4], [4, 7, 15]), ([4, 16], [4, 16])])
def spec_poGood.B6 : List Nat := [0, 0, 3, 7, 15, 31, 63, 127, 255, 255, 767, 2047, 4095, 255, 16383, 32767, 65535, 131071]
theorem spec_poGood.tab6 : rtab .any (opsOf Tryz.f21 6) = spec_poGood.T6 := by kernel_rfl
theorem spec_poGood.bits6 : waitsOk spec_poGood.T6.2 spec_poGood.B6 = true := by kernel_rfl
set_option maxHeartbeats 8000000 in
set_option maxRecDepth 100000 in
theorem spec_poGood.calls (k : Nat) (a0 : Int) (A1 : Option Addr) (c1 : Nat) (l1 : List (S38)) (r : Bool) (w : World) (hr1 : Kd.C k38 w A1 l1.length l1) (hc1 : l1.length ≤ c1) (h : spec_poGood.f k a0 l1 = some r) :
  Calls Tryz.prog 21 #[.int .i64 a0, .slice A1 l1.length c1] w fun e w' => e = .returned (.bool r) ∧ Below w.heap.size w w' := by
 have hu38 := Tryz.underlying38
 have HR1 := Aside0.mk hr1
 have HC1 := Aside0.mk hc1
 clear hr1 hc1
 have HB := Aside0.mk (Below.refl w.heap.size w)
 have H : ((spec_poIs.f a0).bind fun t110 => (if t110 = true then (spec_poGood.j0 k a0 l1 ((l1.length : Int) != (wrap64 (a0 - 3)))) else (spec_poGood.j0 k a0 l1 true))) = some r := h
 clear h
 have HC3 := Aside0.mk H
 clear H
 go_enter Tryz.func21, Tryz.ntmps21
 go_upto_region 1 with (fail)
 go_cut [18] (fun v18 wc => ∃ (kq : Nat) (x18_2 : Bool), v18 = .bool x18_2 ∧ Aside0 (spec_poGood.j0 kq a0 l1 x18_2 = some r) ∧ Aside0 (kq ≤ k) ∧ Aside0 (Below w.heap.size w wc))
 case first =>
  have H := HC3.out
  clear HC3
  replace H := Option.bind_eq_some_iff.mp H
  obtain ⟨t110, A40, H⟩ := H
  replace H : (if t110 = true then (spec_poGood.j0 k a0 l1 ((l1.length : Int) != (wrap64 (a0 - 3)))) else (spec_poGood.j0 k a0 l1 true)) = some r := H
  have A4 := Aside0.mk A40
  clear A40
  by_cases c5 : t110 = true
  ·subst c5
   replace H : (spec_poGood.j0 k a0 l1 ((l1.length : Int) != (wrap64 (a0 - 3)))) = some r := by rw [if_pos rfl] at H; exact H
   have H' := Aside0.mk H
   clear H
   go_wp2_with (first | ((with_reducible refine gate_callee (f := 34) rfl ?_); refine goesL_ (some 10) rfl rfl Tryz.func34 (by kernel_rfl) rfl #[.int .i64 a0] rfl amp_ ?_; (with_reducible refine (spec_poIs.calls a0 true _ A4.out).mono ?_); rintro e w' ⟨rfl, ⟨nd, rfl⟩⟩; refine ⟨_, rfl, ?_⟩))
   go_meet
   case rel => exact ⟨_, (((l1.length : Int) != (wrap64 (a0 - 3)))), rsd_, H', ⟨by first | omega | exact Nat.le_refl _⟩, ⟨blw_⟩⟩
  ·replace c5 := Bool.eq_false_iff.mpr c5
   subst c5
   replace H : (spec_poGood.j0 k a0 l1 true) = some r := by rw [if_neg (show ¬ (false = true) by decide)] at H; exact H
   have H' := Aside0.mk H
   clear H
   go_wp2_with (first | ((with_reducible refine gate_callee (f := 34) rfl ?_); refine goesL_ (some 10) rfl rfl Tryz.func34 (by kernel_rfl) rfl #[.int .i64 a0] rfl amp_ ?_; (with_reducible refine (spec_poIs.calls a0 false _ A4.out).mono ?_); rintro e w' ⟨rfl, ⟨nd, rfl⟩⟩; refine ⟨_, rfl, ?_⟩))
   go_meet
   case rel => exact ⟨_, (true), rsd_, H', ⟨by first | omega | exact Nat.le_refl _⟩, ⟨blw_⟩⟩
 case rest =>
  clear HC3
  try clear c1
  try clear c2
  try clear p2
  try clear c3
  try clear c5
  obtain ⟨kq, x18_2, rfl, HA, HJ2, HB⟩ := hcut
  cases kq with
  | zero => exact absurd HA.out (by simp [spec_poGood.j0])
  | succ kj2 =>
   have H := HA.out
   clear HA
   simp only [spec_poGood.j0] at H
   by_cases c6 : x18_2 = true
   ·subst c6
    replace H : (some false) = some r := by rw [if_pos rfl] at H; exact H
    obtain rfl := Option.some.inj H
    go_wp2
    go_ret
    exact er_
   ·replace c6 := Bool.eq_false_iff.mpr c6
    subst c6
    replace H : (spec_poGood.l0 kj2 a0 l1 l1 (l1.length : Int) 0) = some r := by rw [if_neg (show ¬ (false = true) by decide)] at H; exact H
    have H' := Aside0.mk H
    clear H
    go_wp2
    go_loopg [21] kj2 (fun kq v21 w' => ∃ (x21_2 : Int), v21 = .int .i64 x21_2 ∧ Aside0 (spec_poGood.l0 kq a0 l1 l1 (l1.length : Int) x21_2 = some r) ∧ Aside0 (kq ≤ kj2) ∧ Aside0 (Below w.heap.size w w'))
    case atStart => exact ⟨(0), rsd_, H', ⟨Nat.le_refl _⟩, ⟨blw_⟩⟩
    case round =>
     clear H'
     try clear c1
     try clear c2
     try clear p2
     try clear c3
     try clear c5
     try clear c6
     try clear p6
     try clear p2
     obtain ⟨x21_2, rfl, HA, HK2, HB⟩ := hrel
     cases gk with
     | zero => exact absurd HA.out (by simp [spec_poGood.l0])
     | succ k2 =>
      have H := HA.out
      clear HA
      simp only [spec_poGood.l0] at H
      by_cases c7 : x21_2 < (l1.length : Int)
      ·rw [if_pos c7] at H
       have c7b0 : decide (x21_2 < (l1.length : Int)) = true := decide_eq_true c7
       clear c7
       by_cases c8 : 0 ≤ x21_2
       case neg=>rw [if_neg c8] at H;exact absurd H (by simp)
       rw [if_pos c8] at H
       have c8b0 : decide (0 ≤ x21_2) = true := decide_eq_true c8
       clear c8
       by_cases c9 : x21_2 < (l1.length : Int)
       case neg=>rw [if_neg c9] at H;exact absurd H (by simp)
       rw [if_pos c9] at H
       have c9b0 : decide (x21_2 < (l1.length : Int)) = true := decide_eq_true c9
       clear c9
       have HC10 := Aside0.mk H
       clear H
       have p111 : 0 ≤ (x21_2 : Int) := odt_
       have q111 : x21_2 < (l1.length : Int) := odt_
       obtain ⟨ad111, e111, hx111_0, hx111_1⟩ := at_T38 HR1.out x21_2 p111 q111
       cases e111
       (first | replace hx111_0 := (HB.out.cell (World.block_lt_of_cell? w _ hx111_0)).trans hx111_0 | skip)
       (first | replace hx111_1 := (HB.out.cell (World.block_lt_of_cell? w _ hx111_1)).trans hx111_1 | skip)
       replace p111 := eq_true p111
       replace q111 := eq_true q111
       go_upto_region 6 with (first | ((with_reducible refine gate_dst (N := 6) rfl ?_); (try (refine gate_guard (by rfl) ?_; dsimp only)); refine bxe_ 6 #[.int .i64 0, .int .i64 0] 38 ?_; intro gb112 hg w11 hbox hb; have BK112 := Aside0.mk (hbox); have GW112 := gz_ w hg; have GE112 := gz_ w hg; replace HB := Aside0.mk (below_step blw_ hb); clear hb hbox hg; have hcz12_0 := blc_ (.int .i64 0) BK112 0; have hcz12_1 := blc_ (.int .i64 0) BK112 1; have hfz12_0 := blk_frozen BK112.out 0; have hfz12_1 := blk_frozen BK112.out 1))
       (try simp only [Act.put, List.setIfInBounds_toArray, List.set_cons_zero, List.set_cons_succ])
       go_cut [43] (fun v43 wc => ∃ (kq : Nat) (x43_9 : Bool), v43 = .bool x43_9 ∧ Aside0 (spec_poGood.j2 kq a0 l1 x21_2 l1 (l1.length : Int) x21_2 x43_9 ((rd_T38 l1 x21_2).f0) ((rd_T38 l1 x21_2).f1) = some r) ∧ Aside0 (kq ≤ k2) ∧ Aside0 (wc.heap[gb112]? = some (.cells #[.int .i64 ((rd_T38 l1 x21_2).f0), .int .i64 ((rd_T38 l1 x21_2).f1)] 38 (0, 0))) ∧ Aside0 (Below w.heap.size w wc))
       case first =>
        have H := HC10.out
        clear HC10
        replace H := Option.bind_eq_some_iff.mp H
        obtain ⟨t113, A130, H⟩ := H
        replace H : (if t113 = true then (if x21_2 > 0 then (if 0 ≤ (wrap64 (x21_2 - 1)) then (if (wrap64 (x21_2 - 1)) < (l1.length : Int) then ((spec_poLess.f ((rd_T38 l1 (wrap64 (x21_2 - 1))).f0) ((rd_T38 l1 (wrap64 (x21_2 - 1))).f1) ((rd_T38 l1 x21_2).f0) ((rd_T38 l1 x21_2).f1)).bind fun t115 => (spec_poGood.j2 k2 a0 l1 x21_2 l1 (l1.length : Int) x21_2 (!t115) ((rd_T38 l1 x21_2).f0) ((rd_T38 l1 x21_2).f1))) else (none)) else (none)) else (spec_poGood.j2 k2 a0 l1 x21_2 l1 (l1.length : Int) x21_2 false ((rd_T38 l1 x21_2).f0) ((rd_T38 l1 x21_2).f1))) else (spec_poGood.j2 k2 a0 l1 x21_2 l1 (l1.length : Int) x21_2 true ((rd_T38 l1 x21_2).f0) ((rd_T38 l1 x21_2).f1))) = some r := H
        have A13 := Aside0.mk A130
        clear A130
        by_cases c14 : t113 = true
        ·subst c14
         replace H : (if x21_2 > 0 then (if 0 ≤ (wrap64 (x21_2 - 1)) then (if (wrap64 (x21_2 - 1)) < (l1.length : Int) then ((spec_poLess.f ((rd_T38 l1 (wrap64 (x21_2 - 1))).f0) ((rd_T38 l1 (wrap64 (x21_2 - 1))).f1) ((rd_T38 l1 x21_2).f0) ((rd_T38 l1 x21_2).f1)).bind fun t115 => (spec_poGood.j2 k2 a0 l1 x21_2 l1 (l1.length : Int) x21_2 (!t115) ((rd_T38 l1 x21_2).f0) ((rd_T38 l1 x21_2).f1))) else (none)) else (none)) else (spec_poGood.j2 k2 a0 l1 x21_2 l1 (l1.length : Int) x21_2 false ((rd_T38 l1 x21_2).f0) ((rd_T38 l1 x21_2).f1))) = some r := by rw [if_pos rfl] at H; exact H
         by_cases c15 : x21_2 > 0
         ·rw [if_pos c15] at H
          have c15b0 : decide (0 < x21_2) = true := decide_eq_true c15
          clear c15
          (first | rw [c15b0] | (simp only [i64_w, i32_w]; rw [c15b0]) | skip)
          obtain ⟨ji16, hji16⟩ : ∃ j_ : Int, (wrap64 (x21_2 - 1)) = j_ := ⟨_, rfl⟩
          replace H : (if 0 ≤ (ji16) then (if (ji16) < (l1.length : Int) then ((spec_poLess.f ((rd_T38 l1 (ji16)).f0) ((rd_T38 l1 (ji16)).f1) ((rd_T38 l1 x21_2).f0) ((rd_T38 l1 x21_2).f1)).bind fun t115 => (spec_poGood.j2 k2 a0 l1 x21_2 l1 (l1.length : Int) x21_2 (!t115) ((rd_T38 l1 x21_2).f0) ((rd_T38 l1 x21_2).f1))) else (none)) else (none)) = some r := by first | (rw [hji16] at H; exact H) | (simp only [hji16] at H ⊢; exact H)
          (try rw [hji16] at A13)
          have hji16w : (IntKind.i64.wrap (x21_2 - 1)) = ji16 := (i64_w _).trans hji16
          by_cases c17 : 0 ≤ (ji16)
          case neg=>rw [if_neg c17] at H;exact absurd H (by simp)
          rw [if_pos c17] at H
          have c17b0 : decide (0 ≤ (ji16)) = true := decide_eq_true c17
          clear c17
          by_cases c18 : (ji16) < (l1.length : Int)
          case neg=>rw [if_neg c18] at H;exact absurd H (by simp)
          rw [if_pos c18] at H
          have c18b0 : decide ((ji16) < (l1.length : Int)) = true := decide_eq_true c18
          clear c18
          replace H := Option.bind_eq_some_iff.mp H
          obtain ⟨t115, A190, H⟩ := H
          replace H : (spec_poGood.j2 k2 a0 l1 x21_2 l1 (l1.length : Int) x21_2 (!t115) ((rd_T38 l1 x21_2).f0) ((rd_T38 l1 x21_2).f1)) = some r := H
          have A19 := Aside0.mk A190
          clear A190
          have H' := Aside0.mk H
          clear H
          try go_wp2
          have n0_ : Aside0 (((w11.setCell ⟨gb112, 0, none⟩ (.int .i64 ((rd_T38 l1 x21_2).f0))).setCell ⟨gb112, 1, none⟩ (.int .i64 ((rd_T38 l1 x21_2).f1))).heap[gb112]? = some (.cells #[.int .i64 ((rd_T38 l1 x21_2).f0), .int .i64 ((rd_T38 l1 x21_2).f1)] 38 (0, 0))) := ⟨by (with_reducible repeat (first | refine blk_drewN ?_ _ | refine blk_drew ?_ | refine blk_alloc ?_ _)); refine blk_put (cs := #[.int .i64 ((rd_T38 l1 x21_2).f0), .int .i64 0]) ?_ 1 _ rfl; (with_reducible repeat (first | refine blk_drewN ?_ _ | refine blk_drew ?_ | refine blk_alloc ?_ _)); refine blk_put (cs := #[.int .i64 0, .int .i64 0]) ?_ 0 _ rfl; (with_reducible repeat (first | refine blk_drewN ?_ _ | refine blk_drew ?_ | refine blk_alloc ?_ _)); exact BK112.out⟩
          have n1_ : Aside0 (Below w.heap.size w ((w11.setCell ⟨gb112, 0, none⟩ (.int .i64 ((rd_T38 l1 x21_2).f0))).setCell ⟨gb112, 1, none⟩ (.int .i64 ((rd_T38 l1 x21_2).f1)))) := ⟨bls_⟩
          (try clear BK112)
          (try clear HB)
          generalize ((w11.setCell ⟨gb112, 0, none⟩ (.int .i64 ((rd_T38 l1 x21_2).f0))).setCell ⟨gb112, 1, none⟩ (.int .i64 ((rd_T38 l1 x21_2).f1))) = w20 at n0_ n1_ ⊢
          have BK112 := n0_
          have HB := n1_
          clear n0_ n1_
          replace BK112 := Aside0.mk (blk_drew BK112.out)
          replace HB := Aside0.mk (below_drew1 HB.out)
          have p114 : 0 ≤ ((ji16) : Int) := odt_
          have q114 : (ji16) < (l1.length : Int) := odt_
          obtain ⟨ad114, e114, hx114_0, hx114_1⟩ := at_T38 HR1.out (ji16) p114 q114
          have hw114_1 := hx114_1
          have hw114_0 := hx114_0
          obtain rfl : ad111 = ad114 := (by injection e114)
          (first | replace hx114_0 := (HB.out.cell (World.block_lt_of_cell? w _ hx114_0)).trans hx114_0 | skip)
          (first | replace hx114_1 := (HB.out.cell (World.block_lt_of_cell? w _ hx114_1)).trans hx114_1 | skip)
          replace p114 := eq_true p114
          replace q114 := eq_true q114
          refine start_ (n := 18) (S := fun w' => w'.cell? ⟨gb112, 0, none⟩ = some (.int .i64 ((rd_T38 l1 x21_2).f0)) ∧ w'.cell? ⟨gb112, 1, none⟩ = some (.int .i64 ((rd_T38 l1 x21_2).f1)) ∧ w'.cell? (ad111.add (((ji16)).toNat * 2)) = some (.int .i64 ((rd_T38 l1 (ji16)).f0)) ∧ w'.cell? ⟨(ad111.add (((ji16)).toNat * 2)).block, (ad111.add (((ji16)).toNat * 2)).off + 1, none⟩ = some (.int .i64 ((rd_T38 l1 (ji16)).f1))) (ds := []) #[false, false, false, false, false, false, false, false, false, false, false, false, false, false, false, false, false, false] (by kernel_rfl) rfl rfl ⟨(blk_cell BK112.out 0).trans rfl, (blk_cell BK112.out 1).trans rfl, ((HB.out.cell (World.block_lt_of_cell? w _ hw114_0)).trans hw114_0), ((HB.out.cell (World.block_lt_of_cell? w _ hw114_1)).trans hw114_1)⟩ (fun hHeld => ?_); refine with_tabW spec_poGood.tab6 spec_poGood.bits6 (fun HT_ HW_ => ?_)
          generalize w20.drew = w21 at BK112 HB hx114_0 hx114_1 hHeld ⊢
          refine pux_ 0 26 HT_ ?_
          refine tak_ 1 27 HT_ HW_ hHeld ?_
          refine oner_ 2 28 HT_ (fun K hK => ?_)
          refine goes_ Tryz.func35 (by kernel_rfl) rfl #[.int .i64 a0, .agg #[.int .i64 ((rd_T38 l1 x21_2).f0), .int .i64 ((rd_T38 l1 x21_2).f1)]] (by rfl) rfl rfl amp_ ?_
          with_reducible refine (spec_poDiagonal.calls a0 ((rd_T38 l1 x21_2).f0) ((rd_T38 l1 x21_2).f1) true _ A13.out).mono ?_
          rintro e w22 ⟨rfl, hb⟩
          refine ⟨_, rfl, ?_⟩
          replace BK112 := bb_ BK112 hb
          replace HB := Aside0.mk (below_step bls_ hb)
          (try clear hb)
          (try clear hb2)
          (try clear hk)
          (try clear hi)
          refine hK.out _ _ ⟨(blk_cell BK112.out 0).trans rfl, (blk_cell BK112.out 1).trans rfl, ((HB.out.cell (World.block_lt_of_cell? w _ hw114_0)).trans hw114_0), ((HB.out.cell (World.block_lt_of_cell? w _ hw114_1)).trans hw114_1)⟩ (fun hHeld => ?_)
          clear hK K
          refine nor_ 28 ?_
          refine pux_ 3 29 HT_ ?_
          refine pux_ 4 30 HT_ ?_
          refine pux_ 5 31 HT_ ?_
          refine pux_ 6 32 HT_ ?_
          refine pux_ 7 33 HT_ ?_
          refine pux_ 8 34 HT_ ?_
          refine pux_ 9 35 HT_ ?_
          refine pux_ 10 36 HT_ ?_
          refine pux_ 11 37 HT_ ?_
          refine tak_ 12 38 HT_ HW_ hHeld ?_
          refine tak_ 13 39 HT_ HW_ hHeld ?_
          refine oner_ 14 40 HT_ (fun K hK => ?_)
          refine goes_ Tryz.func36 (by kernel_rfl) rfl #[.agg #[.int .i64 ((rd_T38 l1 (ji16)).f0), .int .i64 ((rd_T38 l1 (ji16)).f1)], .agg #[.int .i64 ((rd_T38 l1 x21_2).f0), .int .i64 ((rd_T38 l1 x21_2).f1)]] (by rfl) rfl rfl (by (try simp only [List.map_toArray, List.map_cons, List.map_nil]); first | done | (simp only [hji16]; rfl) | rfl | (simp only [List.length_drop, List.length_take]; rfl)) ?_
          with_reducible refine (spec_poLess.calls ((rd_T38 l1 (ji16)).f0) ((rd_T38 l1 (ji16)).f1) ((rd_T38 l1 x21_2).f0) ((rd_T38 l1 x21_2).f1) t115 _ A19.out).mono ?_
          rintro e w23 ⟨rfl, hb⟩
          refine ⟨_, rfl, ?_⟩
          replace BK112 := bb_ BK112 hb
          replace HB := Aside0.mk (below_step bls_ hb)
          (try clear hb)
          (try clear hb2)
          (try clear hk)
          (try clear hi)
          refine hK.out _ _ ⟨(blk_cell BK112.out 0).trans rfl, (blk_cell BK112.out 1).trans rfl, ((HB.out.cell (World.block_lt_of_cell? w _ hw114_0)).trans hw114_0), ((HB.out.cell (World.block_lt_of_cell? w _ hw114_1)).trans hw114_1)⟩ (fun hHeld => ?_)
          clear hK K
          refine nor_ 40 ?_
          refine pux_ 15 41 HT_ ?_
          refine pux_ 16 42 HT_ ?_
          refine pux_ 17 43 HT_ ?_
          refine done_ (done_of HT_.out (by kernel_rfl)) ?_
          try go_wp2
          go_meet
          case rel => exact ⟨_, (!t115), rsd_, H', ⟨by have := HJ2.out; have := HK2.out; first | omega | exact Nat.le_refl _⟩, ⟨bk_ BK112.out⟩, ⟨bls_⟩⟩
         ·rw [if_neg c15] at H
          have c15b0 : decide (0 < x21_2) = false := decide_eq_false c15
          clear c15
          (first | rw [c15b0] | (simp only [i64_w, i32_w]; rw [c15b0]) | skip)
          have H' := Aside0.mk H
          clear H
          try go_wp2
          have n0_ : Aside0 (((w11.setCell ⟨gb112, 0, none⟩ (.int .i64 ((rd_T38 l1 x21_2).f0))).setCell ⟨gb112, 1, none⟩ (.int .i64 ((rd_T38 l1 x21_2).f1))).heap[gb112]? = some (.cells #[.int .i64 ((rd_T38 l1 x21_2).f0), .int .i64 ((rd_T38 l1 x21_2).f1)] 38 (0, 0))) := ⟨by (with_reducible repeat (first | refine blk_drewN ?_ _ | refine blk_drew ?_ | refine blk_alloc ?_ _)); refine blk_put (cs := #[.int .i64 ((rd_T38 l1 x21_2).f0), .int .i64 0]) ?_ 1 _ rfl; (with_reducible repeat (first | refine blk_drewN ?_ _ | refine blk_drew ?_ | refine blk_alloc ?_ _)); refine blk_put (cs := #[.int .i64 0, .int .i64 0]) ?_ 0 _ rfl; (with_reducible repeat (first | refine blk_drewN ?_ _ | refine blk_drew ?_ | refine blk_alloc ?_ _)); exact BK112.out⟩
          have n1_ : Aside0 (Below w.heap.size w ((w11.setCell ⟨gb112, 0, none⟩ (.int .i64 ((rd_T38 l1 x21_2).f0))).setCell ⟨gb112, 1, none⟩ (.int .i64 ((rd_T38 l1 x21_2).f1)))) := ⟨bls_⟩
          (try clear BK112)
          (try clear HB)
          generalize ((w11.setCell ⟨gb112, 0, none⟩ (.int .i64 ((rd_T38 l1 x21_2).f0))).setCell ⟨gb112, 1, none⟩ (.int .i64 ((rd_T38 l1 x21_2).f1))) = w24 at n0_ n1_ ⊢
          have BK112 := n0_
          have HB := n1_
          clear n0_ n1_
          replace BK112 := Aside0.mk (blk_drew BK112.out)
          replace HB := Aside0.mk (below_drew1 HB.out)
          refine start_ (n := 18) (S := fun w' => w'.cell? ⟨gb112, 0, none⟩ = some (.int .i64 ((rd_T38 l1 x21_2).f0)) ∧ w'.cell? ⟨gb112, 1, none⟩ = some (.int .i64 ((rd_T38 l1 x21_2).f1))) (ds := []) #[false, false, false, false, false, false, false, false, false, false, false, false, false, false, false, false, false, false] (by kernel_rfl) rfl rfl ⟨(blk_cell BK112.out 0).trans rfl, (blk_cell BK112.out 1).trans rfl⟩ (fun hHeld => ?_); refine with_tabW spec_poGood.tab6 spec_poGood.bits6 (fun HT_ HW_ => ?_)
          generalize w24.drew = w25 at BK112 HB hHeld ⊢
          refine pux_ 0 26 HT_ ?_
          refine tak_ 1 27 HT_ HW_ hHeld ?_
          refine oner_ 2 28 HT_ (fun K hK => ?_)
          refine goes_ Tryz.func35 (by kernel_rfl) rfl #[.int .i64 a0, .agg #[.int .i64 ((rd_T38 l1 x21_2).f0), .int .i64 ((rd_T38 l1 x21_2).f1)]] (by rfl) rfl rfl amp_ ?_
          with_reducible refine (spec_poDiagonal.calls a0 ((rd_T38 l1 x21_2).f0) ((rd_T38 l1 x21_2).f1) true _ A13.out).mono ?_
          rintro e w26 ⟨rfl, hb⟩
          refine ⟨_, rfl, ?_⟩
          replace BK112 := bb_ BK112 hb
          replace HB := Aside0.mk (below_step bls_ hb)
          (try clear hb)
          (try clear hb2)
          (try clear hk)
          (try clear hi)
          refine hK.out _ _ ⟨(blk_cell BK112.out 0).trans rfl, (blk_cell BK112.out 1).trans rfl⟩ (fun hHeld => ?_)
          clear hK K
          refine nor_ 28 ?_
          refine pux_ 3 29 HT_ ?_
          refine pux_ 4 30 HT_ ?_
          refine pux_ 5 31 HT_ ?_
          refine pux_ 6 32 HT_ ?_
          refine pux_ 7 33 HT_ ?_
          refine puy_ 8 34 HT_ ?_
          refine puy_ 9 35 HT_ ?_
          refine puy_ 10 36 HT_ ?_
          refine puy_ 11 37 HT_ ?_
          refine puy_ 12 38 HT_ ?_
          refine puy_ 13 39 HT_ ?_
          refine puy_ 14 40 HT_ ?_
          refine puy_ 15 41 HT_ ?_
          refine pux_ 16 42 HT_ ?_
          refine pux_ 17 43 HT_ ?_
          refine done_ (done_of HT_.out (by kernel_rfl)) ?_
          try go_wp2
          go_meet
          case rel => exact ⟨_, (false), rsd_, H', ⟨by have := HJ2.out; have := HK2.out; first | omega | exact Nat.le_refl _⟩, ⟨bk_ BK112.out⟩, ⟨bls_⟩⟩
        ·replace c14 := Bool.eq_false_iff.mpr c14
         subst c14
         replace H : (spec_poGood.j2 k2 a0 l1 x21_2 l1 (l1.length : Int) x21_2 true ((rd_T38 l1 x21_2).f0) ((rd_T38 l1 x21_2).f1)) = some r := by rw [if_neg (show ¬ (false = true) by decide)] at H; exact H
         have H' := Aside0.mk H
         clear H
         try go_wp2
         have n0_ : Aside0 (((w11.setCell ⟨gb112, 0, none⟩ (.int .i64 ((rd_T38 l1 x21_2).f0))).setCell ⟨gb112, 1, none⟩ (.int .i64 ((rd_T38 l1 x21_2).f1))).heap[gb112]? = some (.cells #[.int .i64 ((rd_T38 l1 x21_2).f0), .int .i64 ((rd_T38 l1 x21_2).f1)] 38 (0, 0))) := ⟨by (with_reducible repeat (first | refine blk_drewN ?_ _ | refine blk_drew ?_ | refine blk_alloc ?_ _)); refine blk_put (cs := #[.int .i64 ((rd_T38 l1 x21_2).f0), .int .i64 0]) ?_ 1 _ rfl; (with_reducible repeat (first | refine blk_drewN ?_ _ | refine blk_drew ?_ | refine blk_alloc ?_ _)); refine blk_put (cs := #[.int .i64 0, .int .i64 0]) ?_ 0 _ rfl; (with_reducible repeat (first | refine blk_drewN ?_ _ | refine blk_drew ?_ | refine blk_alloc ?_ _)); exact BK112.out⟩
         have n1_ : Aside0 (Below w.heap.size w ((w11.setCell ⟨gb112, 0, none⟩ (.int .i64 ((rd_T38 l1 x21_2).f0))).setCell ⟨gb112, 1, none⟩ (.int .i64 ((rd_T38 l1 x21_2).f1)))) := ⟨bls_⟩
         (try clear BK112)
         (try clear HB)
         generalize ((w11.setCell ⟨gb112, 0, none⟩ (.int .i64 ((rd_T38 l1 x21_2).f0))).setCell ⟨gb112, 1, none⟩ (.int .i64 ((rd_T38 l1 x21_2).f1))) = w27 at n0_ n1_ ⊢
         have BK112 := n0_
         have HB := n1_
         clear n0_ n1_
         replace BK112 := Aside0.mk (blk_drew BK112.out)
         replace HB := Aside0.mk (below_drew1 HB.out)
         refine start_ (n := 18) (S := fun w' => w'.cell? ⟨gb112, 0, none⟩ = some (.int .i64 ((rd_T38 l1 x21_2).f0)) ∧ w'.cell? ⟨gb112, 1, none⟩ = some (.int .i64 ((rd_T38 l1 x21_2).f1))) (ds := []) #[false, false, false, false, false, false, false, false, false, false, false, false, false, false, false, false, false, false] (by kernel_rfl) rfl rfl ⟨(blk_cell BK112.out 0).trans rfl, (blk_cell BK112.out 1).trans rfl⟩ (fun hHeld => ?_); refine with_tabW spec_poGood.tab6 spec_poGood.bits6 (fun HT_ HW_ => ?_)
         generalize w27.drew = w28 at BK112 HB hHeld ⊢
         refine pux_ 0 26 HT_ ?_
         refine tak_ 1 27 HT_ HW_ hHeld ?_
         refine oner_ 2 28 HT_ (fun K hK => ?_)
         refine goes_ Tryz.func35 (by kernel_rfl) rfl #[.int .i64 a0, .agg #[.int .i64 ((rd_T38 l1 x21_2).f0), .int .i64 ((rd_T38 l1 x21_2).f1)]] (by rfl) rfl rfl amp_ ?_
         with_reducible refine (spec_poDiagonal.calls a0 ((rd_T38 l1 x21_2).f0) ((rd_T38 l1 x21_2).f1) false _ A13.out).mono ?_
         rintro e w29 ⟨rfl, hb⟩
         refine ⟨_, rfl, ?_⟩
         replace BK112 := bb_ BK112 hb
         replace HB := Aside0.mk (below_step bls_ hb)
         (try clear hb)
         (try clear hb2)
         (try clear hk)
         (try clear hi)
         refine hK.out _ _ ⟨(blk_cell BK112.out 0).trans rfl, (blk_cell BK112.out 1).trans rfl⟩ (fun hHeld => ?_)
         clear hK K
         refine nor_ 28 ?_
         refine pux_ 3 29 HT_ ?_
         refine pux_ 4 30 HT_ ?_
         refine puy_ 5 31 HT_ ?_
         refine puy_ 6 32 HT_ ?_
         refine puy_ 7 33 HT_ ?_
         refine puy_ 8 34 HT_ ?_
         refine puy_ 9 35 HT_ ?_
         refine puy_ 10 36 HT_ ?_
         refine puy_ 11 37 HT_ ?_
         refine puy_ 12 38 HT_ ?_
         refine puy_ 13 39 HT_ ?_
         refine puy_ 14 40 HT_ ?_
         refine puy_ 15 41 HT_ ?_
         refine puy_ 16 42 HT_ ?_
         refine pux_ 17 43 HT_ ?_
         refine done_ (done_of HT_.out (by kernel_rfl)) ?_
         try go_wp2
         go_meet
         case rel => exact ⟨_, (true), rsd_, H', ⟨by have := HJ2.out; have := HK2.out; first | omega | exact Nat.le_refl _⟩, ⟨bk_ BK112.out⟩, ⟨bls_⟩⟩
       case rest =>
        clear HC10
        try clear c1
        try clear p1
        try clear q1
        try clear hx1
        try clear c2
        try clear p2
        try clear c3
        try clear c5
        try clear c6
        try clear p6
        try clear c7
        try clear c7b0
        try clear c8
        try clear c8b0
        try clear c9
        try clear c9b0
        try clear p11
        try clear q11
        try clear hx11
        try clear c14
        try clear c15
        try clear c15b0
        try clear c17
        try clear c17b0
        try clear c18
        try clear c18b0
        try clear hcz12_0
        try clear hcz12_1
        try clear hfz12_0
        try clear hfz12_1
        try clear hx111_0
        try clear hx111_1
        try clear hx114_0
        try clear hx114_1
        try clear p111
        try clear p114
        try clear p2
        try clear p6
        try clear q111
        try clear q114
        obtain ⟨kq, x43_9, rfl, HA, HJ9, BK112, HB⟩ := hcut
        cases kq with
        | zero => exact absurd HA.out (by simp [spec_poGood.j2])
        | succ kj9 =>
         have H := HA.out
         clear HA
         simp only [spec_poGood.j2] at H
         by_cases c30 : x43_9 = true
         ·subst c30
          replace H : (some false) = some r := by rw [if_pos rfl] at H; exact H
          obtain rfl := Option.some.inj H
          go_wp2
          go_ret
          exact er_
         ·replace c30 := Bool.eq_false_iff.mpr c30
          subst c30
          replace H : (if 0 ≤ x21_2 then (if x21_2 ≤ (l1.length : Int) then ((some (l1.take (x21_2 : Int).toNat : List (S38))).bind fun y116 => (spec_poGood.l1 kj9 a0 l1 l1 (l1.length : Int) x21_2 y116 (y116.length : Int) 0 ((rd_T38 l1 x21_2).f0) ((rd_T38 l1 x21_2).f1))) else (none)) else (none)) = some r := by rw [if_neg (show ¬ (false = true) by decide)] at H; exact H
          by_cases c31 : 0 ≤ x21_2
          case neg=>rw [if_neg c31] at H;exact absurd H (by simp)
          rw [if_pos c31] at H
          have c31b0 := eq_true c31
          have c31b1 : decide (0 ≤ x21_2) = true := decide_eq_true c31
          clear c31
          by_cases c32 : x21_2 ≤ (l1.length : Int)
          case neg=>rw [if_neg c32] at H;exact absurd H (by simp)
          rw [if_pos c32] at H
          have c32b0 := eq_true c32
          have c32b1 : decide (x21_2 ≤ (l1.length : Int)) = true := decide_eq_true c32
          clear c32
          obtain ⟨y116, hy116⟩ : ∃ y_ : List (S38), y_ = (l1.take (x21_2 : Int).toNat) := ⟨_, rfl⟩
          replace H : (spec_poGood.l1 kj9 a0 l1 l1 (l1.length : Int) x21_2 y116 (y116.length : Int) 0 ((rd_T38 l1 x21_2).f0) ((rd_T38 l1 x21_2).f1)) = some r := hyy_ hy116 H
          have Ny116 := Aside0.mk hy116
          clear hy116
          have H' := Aside0.mk H
          clear H
          have q33 : (x21_2 : Int) ≤ ((l1.length : Int) : Int) := odt_
          obtain ⟨i033, hi033, _, hsz33, _⟩ := info_parts info38
          have hroom33 : l1.length ≤ c1 := HC1.out
          have hC33 : Kd.C k38 _ (some ad111) l1.length l1 := HR1.out
          have hcut33 := cut_to (P := Tryz.prog) 27 38 .i64 Tryz.underlying27 hi033 (some ad111) l1.length c1 x21_2 (odt_) q33 hroom33
          have hr33 := Kd.C_take (m := (x21_2 : Int).toNat) hC33 (by omega)
          have hy33 : y116.length = (x21_2 : Int).toNat := (by rw [Ny116.out, List.length_take]; omega)
          rw [← Ny116.out] at hr33
          rw [← hy33] at hcut33
          have HR119 := Aside0.mk hr33
          have HC119 := Aside0.mk (show y116.length ≤ c1 from by omega)
          clear hr33 hC33 hroom33 hi033 hsz33
          have KY33 := Aside0.mk hy33
          clear hy33
          replace q33 := eq_true q33
          go_wp2
          go_loopg [48] kj9 (fun kq v48 w' => ∃ (x48_4 : Int), v48 = .int .i64 x48_4 ∧ Aside0 (spec_poGood.l1 kq a0 l1 l1 (l1.length : Int) x21_2 y116 (y116.length : Int) x48_4 ((rd_T38 l1 x21_2).f0) ((rd_T38 l1 x21_2).f1) = some r) ∧ Aside0 (kq ≤ kj9) ∧ Aside0 (w'.heap[gb112]? = some (.cells #[.int .i64 ((rd_T38 l1 x21_2).f0), .int .i64 ((rd_T38 l1 x21_2).f1)] 38 (0, 0))) ∧ Aside0 (Below w.heap.size w w'))
          case atStart => exact ⟨(0), rsd_, H', ⟨Nat.le_refl _⟩, ⟨bk_ BK112.out⟩, ⟨bls_⟩⟩
          case round =>
           clear H'
           try clear c1
           try clear p1
           try clear q1
           try clear hx1
           try clear c2
           try clear p2
           try clear c3
           try clear q3
           try clear c5
           try clear c6
           try clear p6
           try clear c7
           try clear c7b0
           try clear c8
           try clear c8b0
           try clear c9
           try clear c9b0
           try clear p11
           try clear q11
           try clear hx11
           try clear c14
           try clear c15
           try clear c15b0
           try clear c17
           try clear c17b0
           try clear c18
           try clear c18b0
           try clear c30
           try clear c31
           try clear c31b0
           try clear c31b1
           try clear c32
           try clear c32b0
           try clear c32b1
           try clear q33
           try clear hcz12_0
           try clear hcz12_1
           try clear hfz12_0
           try clear hfz12_1
           try clear hx111_0
           try clear hx111_1
           try clear hx114_0
           try clear hx114_1
           try clear p1
           try clear p11
           try clear p111
           try clear p114
           try clear p2
           try clear p6
           try clear q1
           try clear q11
           try clear q111
           try clear q114
           try clear q33
           obtain ⟨x48_4, rfl, HA, HK4, BK112, HB⟩ := hrel
           cases gk with
           | zero => exact absurd HA.out (by simp [spec_poGood.l1])
           | succ k4 =>
            have H := HA.out
            clear HA
            simp only [spec_poGood.l1] at H
            by_cases c34 : x48_4 < (y116.length : Int)
            ·rw [if_pos c34] at H
             have c34b0 : decide (x48_4 < (y116.length : Int)) = true := decide_eq_true c34
             clear c34
             by_cases c35 : 0 ≤ x48_4
             case neg=>rw [if_neg c35] at H;exact absurd H (by simp)
             rw [if_pos c35] at H
             have c35b0 : decide (0 ≤ x48_4) = true := decide_eq_true c35
             clear c35
             by_cases c36 : x48_4 < (y116.length : Int)
             case neg=>rw [if_neg c36] at H;exact absurd H (by simp)
             rw [if_pos c36] at H
             have c36b0 : decide (x48_4 < (y116.length : Int)) = true := decide_eq_true c36
             clear c36
             replace H := Option.bind_eq_some_iff.mp H
             obtain ⟨t122, A370, H⟩ := H
             replace H : (if t122 = true then (some false) else (spec_poGood.l1 k4 a0 l1 l1 (l1.length : Int) x21_2 y116 (y116.length : Int) (wrap64 (x48_4 + 1)) ((rd_T38 l1 x21_2).f0) ((rd_T38 l1 x21_2).f1))) = some r := H
             have A37 := Aside0.mk A370
             clear A370
             by_cases c38 : t122 = true
             ·subst c38
              replace H : (some false) = some r := by rw [if_pos rfl] at H; exact H
              obtain rfl := Option.some.inj H
              have p120 : 0 ≤ (x48_4 : Int) := odt_
              have q120 : x48_4 < (y116.length : Int) := odt_
              obtain ⟨ad120, e120, hx120_0, hx120_1⟩ := at_T38 HR119.out x48_4 p120 q120
              obtain rfl : ad111 = ad120 := (by injection e120)
              (first | replace hx120_0 := (HB.out.cell (World.block_lt_of_cell? w _ hx120_0)).trans hx120_0 | skip)
              (first | replace hx120_1 := (HB.out.cell (World.block_lt_of_cell? w _ hx120_1)).trans hx120_1 | skip)
              replace p120 := eq_true p120
              replace q120 := eq_true q120
              go_wp2_with (first | ((with_reducible refine gate_dst (N := 8) rfl ?_); (try (refine gate_guard (by rfl) ?_; dsimp only)); refine bxe_ 8 #[.int .i64 0, .int .i64 0] 38 ?_; intro gb121 hg w39 hbox hb; have BK121 := Aside0.mk (hbox); have GW121 := gz_ w hg; have GE121 := gz_ w hg; have NB112_121 := nb_ BK112 hg; have NB121_112 := nbr_ BK112 hg; replace BK112 := bb_ BK112 hb; replace HB := Aside0.mk (below_step bls_ hb); clear hb hbox hg; have hnb40 := NB121_112.out; have hnc40 := NB112_121.out; have hcz41_0 := blc_ (.int .i64 0) BK121 0; have hcz41_1 := blc_ (.int .i64 0) BK121 1; have hfz41_0 := blk_frozen BK121.out 0; have hfz41_1 := blk_frozen BK121.out 1; have hcz42_0 := blc_ (.int .i64 ((rd_T38 l1 x21_2).f0)) BK112 0; have hcz42_1 := blc_ (.int .i64 ((rd_T38 l1 x21_2).f1)) BK112 1; have hfz42_0 := blk_frozen BK112.out 0; have hfz42_1 := blk_frozen BK112.out 1) | ((with_reducible refine gate_callee (f := 37) rfl ?_); refine goesL_ (some 54) rfl rfl Tryz.func37 (by kernel_rfl) rfl #[.agg #[.int .i64 ((rd_T38 l1 x21_2).f0), .int .i64 ((rd_T38 l1 x21_2).f1)], .agg #[.int .i64 ((rd_T38 y116 x48_4).f0), .int .i64 ((rd_T38 y116 x48_4).f1)]] rfl amp_ ?_; (with_reducible refine (spec_poCross.calls ((rd_T38 l1 x21_2).f0) ((rd_T38 l1 x21_2).f1) ((rd_T38 y116 x48_4).f0) ((rd_T38 y116 x48_4).f1) true _ A37.out).mono ?_); rintro e w43 ⟨rfl, hb⟩; refine ⟨_, rfl, ?_⟩; replace BK112 := Aside0.mk (blk_below (g := gb112) (o := .cells #[.int .i64 ((rd_T38 l1 x21_2).f0), .int .i64 ((rd_T38 l1 x21_2).f1)] 38 (0, 0)) (by (with_reducible repeat (first | refine blk_drewN ?_ _ | refine blk_drew ?_ | refine blk_alloc ?_ _)); refine blk_far ?_ NB112_121.out _; (with_reducible repeat (first | refine blk_drewN ?_ _ | refine blk_drew ?_ | refine blk_alloc ?_ _)); refine blk_far ?_ NB112_121.out _; (with_reducible repeat (first | refine blk_drewN ?_ _ | refine blk_drew ?_ | refine blk_alloc ?_ _)); exact BK112.out) hb); replace BK121 := Aside0.mk (blk_below (g := gb121) (o := .cells #[.int .i64 ((rd_T38 y116 x48_4).f0), .int .i64 ((rd_T38 y116 x48_4).f1)] 38 (0, 0)) (by (with_reducible repeat (first | refine blk_drewN ?_ _ | refine blk_drew ?_ | refine blk_alloc ?_ _)); refine blk_put (cs := #[.int .i64 ((rd_T38 y116 x48_4).f0), .int .i64 0]) ?_ 1 _ rfl; (with_reducible repeat (first | refine blk_drewN ?_ _ | refine blk_drew ?_ | refine blk_alloc ?_ _)); refine blk_put (cs := #[.int .i64 0, .int .i64 0]) ?_ 0 _ rfl; (with_reducible repeat (first | refine blk_drewN ?_ _ | refine blk_drew ?_ | refine blk_alloc ?_ _)); exact BK121.out) hb); replace HB := Aside0.mk (below_step bls_ hb); (try clear hb); (try clear hb2); (try clear hk); (try clear hi)))
              go_ret
              exact er_
             ·replace c38 := Bool.eq_false_iff.mpr c38
              subst c38
              replace H : (spec_poGood.l1 k4 a0 l1 l1 (l1.length : Int) x21_2 y116 (y116.length : Int) (wrap64 (x48_4 + 1)) ((rd_T38 l1 x21_2).f0) ((rd_T38 l1 x21_2).f1)) = some r := by rw [if_neg (show ¬ (false = true) by decide)] at H; exact H
              have H' := Aside0.mk H
              clear H
              have p120 : 0 ≤ (x48_4 : Int) := odt_
              have q120 : x48_4 < (y116.length : Int) := odt_
              obtain ⟨ad120, e120, hx120_0, hx120_1⟩ := at_T38 HR119.out x48_4 p120 q120
              obtain rfl : ad111 = ad120 := (by injection e120)
              (first | replace hx120_0 := (HB.out.cell (World.block_lt_of_cell? w _ hx120_0)).trans hx120_0 | skip)
              (first | replace hx120_1 := (HB.out.cell (World.block_lt_of_cell? w _ hx120_1)).trans hx120_1 | skip)
              replace p120 := eq_true p120
              replace q120 := eq_true q120
              go_wp2_with (first | ((with_reducible refine gate_dst (N := 8) rfl ?_); (try (refine gate_guard (by rfl) ?_; dsimp only)); refine bxe_ 8 #[.int .i64 0, .int .i64 0] 38 ?_; intro gb121 hg w44 hbox hb; have BK121 := Aside0.mk (hbox); have GW121 := gz_ w hg; have GE121 := gz_ w hg; have NB112_121 := nb_ BK112 hg; have NB121_112 := nbr_ BK112 hg; replace BK112 := bb_ BK112 hb; replace HB := Aside0.mk (below_step bls_ hb); clear hb hbox hg; have hnb45 := NB121_112.out; have hnc45 := NB112_121.out; have hcz46_0 := blc_ (.int .i64 0) BK121 0; have hcz46_1 := blc_ (.int .i64 0) BK121 1; have hfz46_0 := blk_frozen BK121.out 0; have hfz46_1 := blk_frozen BK121.out 1; have hcz47_0 := blc_ (.int .i64 ((rd_T38 l1 x21_2).f0)) BK112 0; have hcz47_1 := blc_ (.int .i64 ((rd_T38 l1 x21_2).f1)) BK112 1; have hfz47_0 := blk_frozen BK112.out 0; have hfz47_1 := blk_frozen BK112.out 1) | ((with_reducible refine gate_callee (f := 37) rfl ?_); refine goesL_ (some 54) rfl rfl Tryz.func37 (by kernel_rfl) rfl #[.agg #[.int .i64 ((rd_T38 l1 x21_2).f0), .int .i64 ((rd_T38 l1 x21_2).f1)], .agg #[.int .i64 ((rd_T38 y116 x48_4).f0), .int .i64 ((rd_T38 y116 x48_4).f1)]] rfl amp_ ?_; (with_reducible refine (spec_poCross.calls ((rd_T38 l1 x21_2).f0) ((rd_T38 l1 x21_2).f1) ((rd_T38 y116 x48_4).f0) ((rd_T38 y116 x48_4).f1) false _ A37.out).mono ?_); rintro e w48 ⟨rfl, hb⟩; refine ⟨_, rfl, ?_⟩; replace BK112 := Aside0.mk (blk_below (g := gb112) (o := .cells #[.int .i64 ((rd_T38 l1 x21_2).f0), .int .i64 ((rd_T38 l1 x21_2).f1)] 38 (0, 0)) (by (with_reducible repeat (first | refine blk_drewN ?_ _ | refine blk_drew ?_ | refine blk_alloc ?_ _)); refine blk_far ?_ NB112_121.out _; (with_reducible repeat (first | refine blk_drewN ?_ _ | refine blk_drew ?_ | refine blk_alloc ?_ _)); refine blk_far ?_ NB112_121.out _; (with_reducible repeat (first | refine blk_drewN ?_ _ | refine blk_drew ?_ | refine blk_alloc ?_ _)); exact BK112.out) hb); replace BK121 := Aside0.mk (blk_below (g := gb121) (o := .cells #[.int .i64 ((rd_T38 y116 x48_4).f0), .int .i64 ((rd_T38 y116 x48_4).f1)] 38 (0, 0)) (by (with_reducible repeat (first | refine blk_drewN ?_ _ | refine blk_drew ?_ | refine blk_alloc ?_ _)); refine blk_put (cs := #[.int .i64 ((rd_T38 y116 x48_4).f0), .int .i64 0]) ?_ 1 _ rfl; (with_reducible repeat (first | refine blk_drewN ?_ _ | refine blk_drew ?_ | refine blk_alloc ?_ _)); refine blk_put (cs := #[.int .i64 0, .int .i64 0]) ?_ 0 _ rfl; (with_reducible repeat (first | refine blk_drewN ?_ _ | refine blk_drew ?_ | refine blk_alloc ?_ _)); exact BK121.out) hb); replace HB := Aside0.mk (below_step bls_ hb); (try clear hb); (try clear hb2); (try clear hk); (try clear hi)))
              go_roundg k4
              case measure => have := HJ2.out; have := HK2.out; have := HJ9.out; have := HK4.out; omega
              case rel => exact ⟨(wrap64 (x48_4 + 1)), rsd_, H', ⟨by have := HJ2.out; have := HK2.out; have := HJ9.out; have := HK4.out; omega⟩, ⟨bk_ BK112.out⟩, ⟨bls_⟩⟩
            ·rw [if_neg c34] at H
             have c34b0 : decide (x48_4 < (y116.length : Int)) = false := decide_eq_false c34
             clear c34
             have H' := Aside0.mk H
             clear H
             go_wp2
             go_roundg k4
             case measure => have := HJ2.out; have := HK2.out; have := HJ9.out; have := HK4.out; omega
             case rel => exact ⟨(wrap64 (x21_2 + 1)), rsd_, H', ⟨by have := HJ2.out; have := HK2.out; have := HJ9.out; have := HK4.out; omega⟩, ⟨bls_⟩⟩
      ·rw [if_neg c7] at H
       have c7b0 : decide (x21_2 < (l1.length : Int)) = false := decide_eq_false c7
       clear c7
       obtain rfl := Option.some.inj H
       go_wp2
       go_ret
       exact er_

end Go.Proofs.YtgblginphicacaaGreatDoor.PFnExactCountByFlips
