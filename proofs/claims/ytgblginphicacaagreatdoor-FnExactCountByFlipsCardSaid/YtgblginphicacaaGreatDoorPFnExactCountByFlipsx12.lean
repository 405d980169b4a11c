-- WRITTEN BY A PROGRAM OF THIS WORK (wip/tools/ppatch.py) for this claim.
import Derived.Test.YtgblginphicacaaGreatDoorPFnExactCountByFlipsx0
import Derived.Test.YtgblginphicacaaGreatDoorPFnExactCountByFlipsx10
import Derived.Test.YtgblginphicacaaGreatDoorPFnExactCountByFlipsx11
namespace Go.Proofs.YtgblginphicacaaGreatDoor.PFnExactCountByFlips
open Go.RowKit Go.Proofs.YtgblginphicacaaGreatDoorW.PrintWords Go.Proofs.YtgblginphicacaaGreatDoorW.PrintLast Go.Proofs.YtgblginphicacaaGreatDoorW.PrintMore
attribute [local go_sem] max2_int min2_int max_two min_two max_three min_three max_four min_four   -- for this text's walks alone
set_option linter.unusedVariables false
set_option linter.unusedSimpArgs false

/-! ### impl_IsTriangulation: function 24 -/
mutual
def impl_IsTriangulation.j0 : Nat → Int → List (S38) → Bool → Option (Bool)
 | 0, _, _, _ => none
 | k + 1, x0, x1, x16 => if x16 = true then (some false) else (impl_IsTriangulation.l0 k x0 x1 x1 (x1.length : Int) 0)
def impl_IsTriangulation.l0 : Nat → Int → List (S38) → List (S38) → Int → Int → Option (Bool)
 | 0, _, _, _, _, _ => none
 | k + 1, x0, x1, x17, x18, x19 => if x19 < x18 then (if 0 ≤ x19 then (if x19 < (x17.length : Int) then ((impl_isDiagonal.f x0 ((rd_T38 x17 x19).f0) ((rd_T38 x17 x19).f1)).bind fun t286 => (if t286 = true then (if x19 > 0 then (if 0 ≤ (wrap64 (x19 - 1)) then (if (wrap64 (x19 - 1)) < (x1.length : Int) then ((impl_compareDiagonals.f k ((rd_T38 x1 (wrap64 (x19 - 1))).f0) ((rd_T38 x1 (wrap64 (x19 - 1))).f1) ((rd_T38 x17 x19).f0) ((rd_T38 x17 x19).f1)).bind fun t288 => (if t288 ≥ 0 then (some false) else (if x19 ≤ (x1.length : Int) then ((impl_Diagonal_29_s0.f k (x1.take (x19 : Int).toNat) ((rd_T38 x17 x19).f0) ((rd_T38 x17 x19).f1)).bind fun t293 => (if t293 = true then (some false) else (impl_IsTriangulation.l0 k x0 x1 x17 x18 (wrap64 (x19 + 1))))) else (none)))) else (none)) else (none)) else (if x19 ≤ (x1.length : Int) then ((impl_Diagonal_29_s0.f k (x1.take (x19 : Int).toNat) ((rd_T38 x17 x19).f0) ((rd_T38 x17 x19).f1)).bind fun t298 => (if t298 = true then (some false) else (impl_IsTriangulation.l0 k x0 x1 x17 x18 (wrap64 (x19 + 1))))) else (none))) else (some false))) else (none)) else (none)) else (some true)
end
def impl_IsTriangulation.f (k : Nat) (a0 : Int) (l1 : List (S38)) : Option (Bool) := (impl_isPolygon.f a0).bind fun t283 => (if t283 = true then (impl_IsTriangulation.j0 k a0 l1 ((l1.length : Int) != (wrap64 (a0 - 3)))) else (impl_IsTriangulation.j0 k a0 l1 true))
theorem impl_IsTriangulation.mono_l : ∀ k, (∀ y0 y1 y2, LeO (impl_IsTriangulation.j0 k y0 y1 y2) (impl_IsTriangulation.j0 (k + 1) y0 y1 y2)) ∧ (∀ y0 y1 y2 y3 y4, LeO (impl_IsTriangulation.l0 k y0 y1 y2 y3 y4) (impl_IsTriangulation.l0 (k + 1) y0 y1 y2 y3 y4))
 | 0 => ⟨fun _ _ _ r h => by simp [impl_IsTriangulation.j0] at h, fun _ _ _ _ _ r h => by simp [impl_IsTriangulation.l0] at h⟩
 | k + 1 => by
  obtain ⟨ih0, ih1⟩ := impl_IsTriangulation.mono_l k
  refine ⟨?_, ?_⟩
  ·intro y0 y1 y2
   unfold impl_IsTriangulation.j0
   repeat' first
   | (with_reducible exact ih0 _ _ _)
   | (with_reducible exact ih1 _ _ _ _ _)
   | (with_reducible exact impl_Diagonal_29_s0.mono _ _ _ _)
   | (with_reducible exact impl_compareDiagonals.mono _ _ _ _ _)
   | (with_reducible exact LeO.refl _)
   | (with_reducible exact LeO.none _)
   | (with_reducible refine LeO.ite ?_ ?_)
   | (with_reducible refine LeO.bind ?_ (fun _ => ?_))
   | exact ih0 _ _ _
   | exact ih1 _ _ _ _ _
   | exact impl_Diagonal_29_s0.mono _ _ _ _
   | exact impl_compareDiagonals.mono _ _ _ _ _
   | exact LeO.none _
   | refine LeO.ite ?_ ?_
   | refine LeO.bind ?_ (fun _ => ?_)
  ·intro y0 y1 y2 y3 y4
   unfold impl_IsTriangulation.l0
   repeat' first
   | (with_reducible exact ih0 _ _ _)
   | (with_reducible exact ih1 _ _ _ _ _)
   | (with_reducible exact impl_Diagonal_29_s0.mono _ _ _ _)
   | (with_reducible exact impl_compareDiagonals.mono _ _ _ _ _)
   | (with_reducible exact LeO.refl _)
   | (with_reducible exact LeO.none _)
   | (with_reducible refine LeO.ite ?_ ?_)
   | (with_reducible refine LeO.bind ?_ (fun _ => ?_))
   | exact ih0 _ _ _
   | exact ih1 _ _ _ _ _
   | exact impl_Diagonal_29_s0.mono _ _ _ _
   | exact impl_compareDiagonals.mono _ _ _ _ _
   | exact LeO.none _
   | refine LeO.ite ?_ ?_
   | refine LeO.bind ?_ (fun _ => ?_)
theorem impl_IsTriangulation.mono : ∀ a0 a1 k, LeO (impl_IsTriangulation.f k a0 a1) (impl_IsTriangulation.f (k + 1) a0 a1) := by
 intro a0 a1 k
 obtain ⟨ih0, ih1⟩ := impl_IsTriangulation.mono_l k
 unfold impl_IsTriangulation.f
 repeat' first
   | (with_reducible exact ih0 _ _ _)
   | (with_reducible exact ih1 _ _ _ _ _)
   | (with_reducible exact impl_Diagonal_29_s0.mono _ _ _ _)
   | (with_reducible exact impl_compareDiagonals.mono _ _ _ _ _)
   | (with_reducible exact LeO.refl _)
   | (with_reducible exact LeO.none _)
   | (with_reducible refine LeO.ite ?_ ?_)
   | (with_reducible refine LeO.bind ?_ (fun _ => ?_))
   | exact ih0 _ _ _
   | exact ih1 _ _ _ _ _
   | exact impl_Diagonal_29_s0.mono _ _ _ _
   | exact impl_compareDiagonals.mono _ _ _ _ _
   | exact LeO.none _
   | refine LeO.ite ?_ ?_
   | refine LeO.bind ?_ (fun _ => ?_)
def impl_IsTriangulation.T6 : Bool × List (List Nat × List Nat) := (true, [([], []), ([], []), ([0, 1], [0, 1]), ([2], [2]), ([3, 2], [3]), ([4], [4]), ([5, 4], [4, 5]), ([6, 4, 4], [4, 6]), ([7], [7]), ([7], [7]), ([9, 7], [7, 9]), ([8, 10, 7], [7, 8, 10]), ([11, 7], [7, 11]), ([7], [7]), ([12, 13, 7, 7], [7, 12, 13]), ([14, 7], [7, 14]), ([7, 15, 4], [4, 7, 15]), ([4, 16], [4, 16]), ([17, 14], [17]), ([18], [18]), ([18], [18]), ([19, 20, 18], [18, 19, 20]), ([18], [18]), ([21, 22, 18, 18], [18, 21, 22]), ([18, 23], [18, 23])])
def impl_IsTriangulation.B6 : List Nat := [0, 0, 3, 7, 15, 31, 63, 127, 255, 255, 767, 2047, 4095, 255, 16383, 32767, 65535, 131071, 262143, 524287, 524287, 2097151, 524287, 8388607, 16777215]
theorem impl_IsTriangulation.tab6 : rtab .any (opsOf Tryz.f24 6) = impl_IsTriangulation.T6 := by kernel_rfl
theorem impl_IsTriangulation.bits6 : waitsOk impl_IsTriangulation.T6.2 impl_IsTriangulation.B6 = true := by kernel_rfl
set_option maxHeartbeats 8000000 in
set_option maxRecDepth 100000 in
theorem impl_IsTriangulation.calls (k : Nat) (a0 : Int) (A1 : Option Addr) (c1 : Nat) (l1 : List (S38)) (r : Bool) (w : World) (hr1 : Kd.C k38 w A1 l1.length l1) (hc1 : l1.length ≤ c1) (h : impl_IsTriangulation.f k a0 l1 = some r) :
  Calls Tryz.prog 24 #[.int .i64 a0, .slice A1 l1.length c1] w fun e w' => e = .returned (.bool r) ∧ Below w.heap.size w w' := by
 have hu38 := Tryz.underlying38
 have HR1 := Aside0.mk hr1
 have HC1 := Aside0.mk hc1
 clear hr1 hc1
 have HB := Aside0.mk (Below.refl w.heap.size w)
 have H : ((impl_isPolygon.f a0).bind fun t283 => (if t283 = true then (impl_IsTriangulation.j0 k a0 l1 ((l1.length : Int) != (wrap64 (a0 - 3)))) else (impl_IsTriangulation.j0 k a0 l1 true))) = some r := h
 clear h
 have HC3 := Aside0.mk H
 clear H
 go_enter Tryz.func24, Tryz.ntmps24
 go_upto_region 1 with (fail)
 go_cut [16] (fun v16 wc => ∃ (kq : Nat) (x16_2 : Bool), v16 = .bool x16_2 ∧ Aside0 (impl_IsTriangulation.j0 kq a0 l1 x16_2 = some r) ∧ Aside0 (kq ≤ k) ∧ Aside0 (Below w.heap.size w wc))
 case first =>
  have H := HC3.out
  clear HC3
  replace H := Option.bind_eq_some_iff.mp H
  obtain ⟨t283, A40, H⟩ := H
  replace H : (if t283 = true then (impl_IsTriangulation.j0 k a0 l1 ((l1.length : Int) != (wrap64 (a0 - 3)))) else (impl_IsTriangulation.j0 k a0 l1 true)) = some r := H
  have A4 := Aside0.mk A40
  clear A40
  by_cases c5 : t283 = true
  ·subst c5
   replace H : (impl_IsTriangulation.j0 k a0 l1 ((l1.length : Int) != (wrap64 (a0 - 3)))) = some r := by rw [if_pos rfl] at H; exact H
   have H' := Aside0.mk H
   clear H
   go_wp2_with (first | ((with_reducible refine gate_callee (f := 41) rfl ?_); refine goesL_ (some 8) rfl rfl Tryz.func41 (by kernel_rfl) rfl #[.int .i64 a0] rfl amp_ ?_; (with_reducible refine (impl_isPolygon.calls a0 true _ A4.out).mono ?_); rintro e w' ⟨rfl, ⟨nd, rfl⟩⟩; refine ⟨_, rfl, ?_⟩))
   go_meet
   case rel => exact ⟨_, (((l1.length : Int) != (wrap64 (a0 - 3)))), rsd_, H', ⟨by first | omega | exact Nat.le_refl _⟩, ⟨blw_⟩⟩
  ·replace c5 := Bool.eq_false_iff.mpr c5
   subst c5
   replace H : (impl_IsTriangulation.j0 k a0 l1 true) = some r := by rw [if_neg (show ¬ (false = true) by decide)] at H; exact H
   have H' := Aside0.mk H
   clear H
   go_wp2_with (first | ((with_reducible refine gate_callee (f := 41) rfl ?_); refine goesL_ (some 8) rfl rfl Tryz.func41 (by kernel_rfl) rfl #[.int .i64 a0] rfl amp_ ?_; (with_reducible refine (impl_isPolygon.calls a0 false _ A4.out).mono ?_); rintro e w' ⟨rfl, ⟨nd, rfl⟩⟩; refine ⟨_, rfl, ?_⟩))
   go_meet
   case rel => exact ⟨_, (true), rsd_, H', ⟨by first | omega | exact Nat.le_refl _⟩, ⟨blw_⟩⟩
 case rest =>
  clear HC3
  try clear c1
  try clear c2
  try clear p2
  try clear c4
  try clear c5
  obtain ⟨kq, x16_2, rfl, HA, HJ2, HB⟩ := hcut
  cases kq with
  | zero => exact absurd HA.out (by simp [impl_IsTriangulation.j0])
  | succ kj2 =>
   have H := HA.out
   clear HA
   simp only [impl_IsTriangulation.j0] at H
   by_cases c6 : x16_2 = true
   ·subst c6
    replace H : (some false) = some r := by rw [if_pos rfl] at H; exact H
    obtain rfl := Option.some.inj H
    go_wp2
    go_ret
    exact er_
   ·replace c6 := Bool.eq_false_iff.mpr c6
    subst c6
    replace H : (impl_IsTriangulation.l0 kj2 a0 l1 l1 (l1.length : Int) 0) = some r := by rw [if_neg (show ¬ (false = true) by decide)] at H; exact H
    have H' := Aside0.mk H
    clear H
    go_wp2
    go_loopg [19] kj2 (fun kq v19 w' => ∃ (x19_2 : Int), v19 = .int .i64 x19_2 ∧ Aside0 (impl_IsTriangulation.l0 kq a0 l1 l1 (l1.length : Int) x19_2 = some r) ∧ Aside0 (kq ≤ kj2) ∧ Aside0 (Below w.heap.size w w'))
    case atStart => exact ⟨(0), rsd_, H', ⟨Nat.le_refl _⟩, ⟨blw_⟩⟩
    case round =>
     clear H'
     try clear c1
     try clear c2
     try clear p2
     try clear c4
     try clear c5
     try clear c6
     try clear p6
     try clear p2
     obtain ⟨x19_2, rfl, HA, HK2, HB⟩ := hrel
     cases gk with
     | zero => exact absurd HA.out (by simp [impl_IsTriangulation.l0])
     | succ k2 =>
      have H := HA.out
      clear HA
      simp only [impl_IsTriangulation.l0] at H
      by_cases c7 : x19_2 < (l1.length : Int)
      ·rw [if_pos c7] at H
       have c7b0 : decide (x19_2 < (l1.length : Int)) = true := decide_eq_true c7
       clear c7
       by_cases c8 : 0 ≤ x19_2
       case neg=>rw [if_neg c8] at H;exact absurd H (by simp)
       rw [if_pos c8] at H
       have c8b0 : decide (0 ≤ x19_2) = true := decide_eq_true c8
       clear c8
       by_cases c9 : x19_2 < (l1.length : Int)
       case neg=>rw [if_neg c9] at H;exact absurd H (by simp)
       rw [if_pos c9] at H
       have c9b0 : decide (x19_2 < (l1.length : Int)) = true := decide_eq_true c9
       clear c9
       replace H := Option.bind_eq_some_iff.mp H
       obtain ⟨t286, A100, H⟩ := H
       replace H : (if t286 = true then (if x19_2 > 0 then (if 0 ≤ (wrap64 (x19_2 - 1)) then (if (wrap64 (x19_2 - 1)) < (l1.length : Int) then ((impl_compareDiagonals.f k2 ((rd_T38 l1 (wrap64 (x19_2 - 1))).f0) ((rd_T38 l1 (wrap64 (x19_2 - 1))).f1) ((rd_T38 l1 x19_2).f0) ((rd_T38 l1 x19_2).f1)).bind fun t288 => (if t288 ≥ 0 then (some false) else (if x19_2 ≤ (l1.length : Int) then ((impl_Diagonal_29_s0.f k2 (l1.take (x19_2 : Int).toNat) ((rd_T38 l1 x19_2).f0) ((rd_T38 l1 x19_2).f1)).bind fun t293 => (if t293 = true then (some false) else (impl_IsTriangulation.l0 k2 a0 l1 l1 (l1.length : Int) (wrap64 (x19_2 + 1))))) else (none)))) else (none)) else (none)) else (if x19_2 ≤ (l1.length : Int) then ((impl_Diagonal_29_s0.f k2 (l1.take (x19_2 : Int).toNat) ((rd_T38 l1 x19_2).f0) ((rd_T38 l1 x19_2).f1)).bind fun t298 => (if t298 = true then (some false) else (impl_IsTriangulation.l0 k2 a0 l1 l1 (l1.length : Int) (wrap64 (x19_2 + 1))))) else (none))) else (some false)) = some r := H
       have A10 := Aside0.mk A100
       clear A100
       by_cases c11 : t286 = true
       ·subst c11
        replace H : (if x19_2 > 0 then (if 0 ≤ (wrap64 (x19_2 - 1)) then (if (wrap64 (x19_2 - 1)) < (l1.length : Int) then ((impl_compareDiagonals.f k2 ((rd_T38 l1 (wrap64 (x19_2 - 1))).f0) ((rd_T38 l1 (wrap64 (x19_2 - 1))).f1) ((rd_T38 l1 x19_2).f0) ((rd_T38 l1 x19_2).f1)).bind fun t288 => (if t288 ≥ 0 then (some false) else (if x19_2 ≤ (l1.length : Int) then ((impl_Diagonal_29_s0.f k2 (l1.take (x19_2 : Int).toNat) ((rd_T38 l1 x19_2).f0) ((rd_T38 l1 x19_2).f1)).bind fun t293 => (if t293 = true then (some false) else (impl_IsTriangulation.l0 k2 a0 l1 l1 (l1.length : Int) (wrap64 (x19_2 + 1))))) else (none)))) else (none)) else (none)) else (if x19_2 ≤ (l1.length : Int) then ((impl_Diagonal_29_s0.f k2 (l1.take (x19_2 : Int).toNat) ((rd_T38 l1 x19_2).f0) ((rd_T38 l1 x19_2).f1)).bind fun t298 => (if t298 = true then (some false) else (impl_IsTriangulation.l0 k2 a0 l1 l1 (l1.length : Int) (wrap64 (x19_2 + 1))))) else (none))) = some r := by rw [if_pos rfl] at H; exact H
        by_cases c12 : x19_2 > 0
        ·rw [if_pos c12] at H
         have c12b0 : decide (0 < x19_2) = true := decide_eq_true c12
         clear c12
         obtain ⟨ji13, hji13⟩ : ∃ j_ : Int, (wrap64 (x19_2 - 1)) = j_ := ⟨_, rfl⟩
         replace H : (if 0 ≤ (ji13) then (if (ji13) < (l1.length : Int) then ((impl_compareDiagonals.f k2 ((rd_T38 l1 (ji13)).f0) ((rd_T38 l1 (ji13)).f1) ((rd_T38 l1 x19_2).f0) ((rd_T38 l1 x19_2).f1)).bind fun t288 => (if t288 ≥ 0 then (some false) else (if x19_2 ≤ (l1.length : Int) then ((impl_Diagonal_29_s0.f k2 (l1.take (x19_2 : Int).toNat) ((rd_T38 l1 x19_2).f0) ((rd_T38 l1 x19_2).f1)).bind fun t293 => (if t293 = true then (some false) else (impl_IsTriangulation.l0 k2 a0 l1 l1 (l1.length : Int) (wrap64 (x19_2 + 1))))) else (none)))) else (none)) else (none)) = some r := by first | (rw [hji13] at H; exact H) | (simp only [hji13] at H ⊢; exact H)
         (try rw [hji13] at A10)
         have hji13w : (IntKind.i64.wrap (x19_2 - 1)) = ji13 := (i64_w _).trans hji13
         by_cases c14 : 0 ≤ (ji13)
         case neg=>rw [if_neg c14] at H;exact absurd H (by simp)
         rw [if_pos c14] at H
         have c14b0 : decide (0 ≤ (ji13)) = true := decide_eq_true c14
         clear c14
         by_cases c15 : (ji13) < (l1.length : Int)
         case neg=>rw [if_neg c15] at H;exact absurd H (by simp)
         rw [if_pos c15] at H
         have c15b0 : decide ((ji13) < (l1.length : Int)) = true := decide_eq_true c15
         clear c15
         replace H := Option.bind_eq_some_iff.mp H
         obtain ⟨t288, A160, H⟩ := H
         replace H : (if t288 ≥ 0 then (some false) else (if x19_2 ≤ (l1.length : Int) then ((impl_Diagonal_29_s0.f k2 (l1.take (x19_2 : Int).toNat) ((rd_T38 l1 x19_2).f0) ((rd_T38 l1 x19_2).f1)).bind fun t293 => (if t293 = true then (some false) else (impl_IsTriangulation.l0 k2 a0 l1 l1 (l1.length : Int) (wrap64 (x19_2 + 1))))) else (none))) = some r := H
         have A16 := Aside0.mk A160
         clear A160
         by_cases c17 : t288 ≥ 0
         ·rw [if_pos c17] at H
          have c17b0 : decide (0 ≤ t288) = true := decide_eq_true c17
          clear c17
          obtain rfl := Option.some.inj H
          have p284 : 0 ≤ (x19_2 : Int) := odt_
          have q284 : x19_2 < (l1.length : Int) := odt_
          obtain ⟨ad284, e284, hx284_0, hx284_1⟩ := at_T38 HR1.out x19_2 p284 q284
          cases e284
          (first | replace hx284_0 := (HB.out.cell (World.block_lt_of_cell? w _ hx284_0)).trans hx284_0 | skip)
          (first | replace hx284_1 := (HB.out.cell (World.block_lt_of_cell? w _ hx284_1)).trans hx284_1 | skip)
          replace p284 := eq_true p284
          replace q284 := eq_true q284
          try go_wp2_with (first | ((with_reducible refine gate_dst (N := 6) rfl ?_); (try (refine gate_guard (by rfl) ?_; dsimp only)); refine bxe_ 6 #[.int .i64 0, .int .i64 0] 38 ?_; intro gb285 hg w18 hbox hb; have BK285 := Aside0.mk (hbox); have GW285 := gz_ w hg; have GE285 := gz_ w hg; replace HB := Aside0.mk (below_step blw_ hb); clear hb hbox hg; have hcz19_0 := blc_ (.int .i64 0) BK285 0; have hcz19_1 := blc_ (.int .i64 0) BK285 1; have hfz19_0 := blk_frozen BK285.out 0; have hfz19_1 := blk_frozen BK285.out 1))
          have n0_ : Aside0 (((w18.setCell ⟨gb285, 0, none⟩ (.int .i64 ((rd_T38 l1 x19_2).f0))).setCell ⟨gb285, 1, none⟩ (.int .i64 ((rd_T38 l1 x19_2).f1))).heap[gb285]? = some (.cells #[.int .i64 ((rd_T38 l1 x19_2).f0), .int .i64 ((rd_T38 l1 x19_2).f1)] 38 (0, 0))) := ⟨by (with_reducible repeat (first | refine blk_drewN ?_ _ | refine blk_drew ?_ | refine blk_alloc ?_ _)); refine blk_put (cs := #[.int .i64 ((rd_T38 l1 x19_2).f0), .int .i64 0]) ?_ 1 _ rfl; (with_reducible repeat (first | refine blk_drewN ?_ _ | refine blk_drew ?_ | refine blk_alloc ?_ _)); refine blk_put (cs := #[.int .i64 0, .int .i64 0]) ?_ 0 _ rfl; (with_reducible repeat (first | refine blk_drewN ?_ _ | refine blk_drew ?_ | refine blk_alloc ?_ _)); exact BK285.out⟩
          have n1_ : Aside0 (Below w.heap.size w ((w18.setCell ⟨gb285, 0, none⟩ (.int .i64 ((rd_T38 l1 x19_2).f0))).setCell ⟨gb285, 1, none⟩ (.int .i64 ((rd_T38 l1 x19_2).f1)))) := ⟨bls_⟩
          (try clear BK285)
          (try clear HB)
          generalize ((w18.setCell ⟨gb285, 0, none⟩ (.int .i64 ((rd_T38 l1 x19_2).f0))).setCell ⟨gb285, 1, none⟩ (.int .i64 ((rd_T38 l1 x19_2).f1))) = w20 at n0_ n1_ ⊢
          have BK285 := n0_
          have HB := n1_
          clear n0_ n1_
          replace BK285 := Aside0.mk (blk_drew BK285.out)
          replace HB := Aside0.mk (below_drew1 HB.out)
          have p287 : 0 ≤ ((ji13) : Int) := odt_
          have q287 : (ji13) < (l1.length : Int) := odt_
          obtain ⟨ad287, e287, hx287_0, hx287_1⟩ := at_T38 HR1.out (ji13) p287 q287
          have hw287_1 := hx287_1
          have hw287_0 := hx287_0
          obtain rfl : ad284 = ad287 := (by injection e287)
          (first | replace hx287_0 := (HB.out.cell (World.block_lt_of_cell? w _ hx287_0)).trans hx287_0 | skip)
          (first | replace hx287_1 := (HB.out.cell (World.block_lt_of_cell? w _ hx287_1)).trans hx287_1 | skip)
          replace p287 := eq_true p287
          replace q287 := eq_true q287
          refine start_ (n := 25) (S := fun w' => w'.cell? ⟨gb285, 0, none⟩ = some (.int .i64 ((rd_T38 l1 x19_2).f0)) ∧ w'.cell? ⟨gb285, 1, none⟩ = some (.int .i64 ((rd_T38 l1 x19_2).f1)) ∧ w'.cell? (ad284.add (((ji13)).toNat * 2)) = some (.int .i64 ((rd_T38 l1 (ji13)).f0)) ∧ w'.cell? ⟨(ad284.add (((ji13)).toNat * 2)).block, (ad284.add (((ji13)).toNat * 2)).off + 1, none⟩ = some (.int .i64 ((rd_T38 l1 (ji13)).f1))) (ds := []) #[false, false, false, false, false, false, false, false, false, false, false, false, false, false, false, false, false, false, false, false, false, false, false, false, false] (by kernel_rfl) rfl rfl ⟨(blk_cell BK285.out 0).trans rfl, (blk_cell BK285.out 1).trans rfl, ((HB.out.cell (World.block_lt_of_cell? w _ hw287_0)).trans hw287_0), ((HB.out.cell (World.block_lt_of_cell? w _ hw287_1)).trans hw287_1)⟩ (fun hHeld => ?_); refine with_tabW impl_IsTriangulation.tab6 impl_IsTriangulation.bits6 (fun HT_ HW_ => ?_)
          generalize w20.drew = w21 at BK285 HB hx287_0 hx287_1 hHeld ⊢
          refine pux_ 0 24 HT_ ?_
          refine tak_ 1 25 HT_ HW_ hHeld ?_
          refine oner_ 2 26 HT_ (fun K hK => ?_)
          refine goes_ Tryz.func42 (by kernel_rfl) rfl #[.int .i64 a0, .agg #[.int .i64 ((rd_T38 l1 x19_2).f0), .int .i64 ((rd_T38 l1 x19_2).f1)]] (by rfl) rfl rfl amp_ ?_
          with_reducible refine (impl_isDiagonal.calls a0 ((rd_T38 l1 x19_2).f0) ((rd_T38 l1 x19_2).f1) true _ A10.out).mono ?_
          rintro e w22 ⟨rfl, hb⟩
          refine ⟨_, rfl, ?_⟩
          replace BK285 := bb_ BK285 hb
          replace HB := Aside0.mk (below_step bls_ hb)
          (try clear hb)
          (try clear hb2)
          (try clear hk)
          (try clear hi)
          refine hK.out _ _ ⟨(blk_cell BK285.out 0).trans rfl, (blk_cell BK285.out 1).trans rfl, ((HB.out.cell (World.block_lt_of_cell? w _ hw287_0)).trans hw287_0), ((HB.out.cell (World.block_lt_of_cell? w _ hw287_1)).trans hw287_1)⟩ (fun hHeld => ?_)
          clear hK K
          refine nor_ 26 ?_
          refine pux_ 3 27 HT_ ?_
          refine pux_ 4 28 HT_ ?_
          refine pux_ 5 29 HT_ ?_
          refine pux_ 6 30 HT_ ?_
          refine pux_ 7 31 HT_ ?_
          refine pux_ 8 32 HT_ ?_
          refine pux_ 9 33 HT_ ?_
          refine pux_ 10 34 HT_ ?_
          refine pux_ 11 35 HT_ ?_
          refine tak_ 12 36 HT_ HW_ hHeld ?_
          refine tak_ 13 37 HT_ HW_ hHeld ?_
          refine oner_ 14 38 HT_ (fun K hK => ?_)
          refine goes_ Tryz.func43 (by kernel_rfl) rfl #[.agg #[.int .i64 ((rd_T38 l1 (ji13)).f0), .int .i64 ((rd_T38 l1 (ji13)).f1)], .agg #[.int .i64 ((rd_T38 l1 x19_2).f0), .int .i64 ((rd_T38 l1 x19_2).f1)]] (by rfl) rfl rfl (by (try simp only [List.map_toArray, List.map_cons, List.map_nil]); first | done | (simp only [hji13]; rfl) | rfl | (simp only [List.length_drop, List.length_take]; rfl)) ?_
          with_reducible refine (impl_compareDiagonals.calls k2 ((rd_T38 l1 (ji13)).f0) ((rd_T38 l1 (ji13)).f1) ((rd_T38 l1 x19_2).f0) ((rd_T38 l1 x19_2).f1) t288 _ A16.out).mono ?_
          rintro e w23 ⟨rfl, hb⟩
          refine ⟨_, rfl, ?_⟩
          replace BK285 := bb_ BK285 hb
          replace HB := Aside0.mk (below_step bls_ hb)
          (try clear hb)
          (try clear hb2)
          (try clear hk)
          (try clear hi)
          refine hK.out _ _ ⟨(blk_cell BK285.out 0).trans rfl, (blk_cell BK285.out 1).trans rfl, ((HB.out.cell (World.block_lt_of_cell? w _ hw287_0)).trans hw287_0), ((HB.out.cell (World.block_lt_of_cell? w _ hw287_1)).trans hw287_1)⟩ (fun hHeld => ?_)
          clear hK K
          refine nor_ 38 ?_
          refine pux_ 15 39 HT_ ?_
          refine pux_ 16 40 HT_ ?_
          refine pux_ 17 41 HT_ ?_
          refine pux_ 18 42 HT_ ?_
          refine puy_ 19 43 HT_ ?_
          refine puy_ 20 44 HT_ ?_
          refine puy_ 21 45 HT_ ?_
          refine puy_ 22 46 HT_ ?_
          refine puy_ 23 47 HT_ ?_
          refine pux_ 24 48 HT_ ?_
          refine done_ (done_of HT_.out (by kernel_rfl)) ?_
          try go_wp2
          go_ret
          exact ⟨by first | rfl | (simp [errW_none, errW_some] <;> rfl) | (simp only [← hji13]; first | rfl | (simp [errW_none, errW_some] <;> rfl)) | (simp [*, errW_none, errW_some] <;> rfl), bls_⟩
         ·rw [if_neg c17] at H
          have c17b0 : decide (0 ≤ t288) = false := decide_eq_false c17
          clear c17
          have c24b0 := eq_true (odt_ : 0 ≤ x19_2)
          by_cases c25 : x19_2 ≤ (l1.length : Int)
          case neg=>rw [if_neg c25] at H;exact absurd H (by simp)
          rw [if_pos c25] at H
          have c25b0 := eq_true c25
          have c25b1 : decide (x19_2 ≤ (l1.length : Int)) = true := decide_eq_true c25
          clear c25
          obtain ⟨y289, hy289⟩ : ∃ y_ : List (S38), y_ = (l1.take (x19_2 : Int).toNat) := ⟨_, rfl⟩
          replace H : ((impl_Diagonal_29_s0.f k2 y289 ((rd_T38 l1 x19_2).f0) ((rd_T38 l1 x19_2).f1)).bind fun t293 => (if t293 = true then (some false) else (impl_IsTriangulation.l0 k2 a0 l1 l1 (l1.length : Int) (wrap64 (x19_2 + 1))))) = some r := hyy_ hy289 H
          have Ny289 := Aside0.mk hy289
          clear hy289
          replace H := Option.bind_eq_some_iff.mp H
          obtain ⟨t293, A260, H⟩ := H
          replace H : (if t293 = true then (some false) else (impl_IsTriangulation.l0 k2 a0 l1 l1 (l1.length : Int) (wrap64 (x19_2 + 1)))) = some r := H
          have A26 := Aside0.mk A260
          clear A260
          by_cases c27 : t293 = true
          ·subst c27
           replace H : (some false) = some r := by rw [if_pos rfl] at H; exact H
           obtain rfl := Option.some.inj H
           have p284 : 0 ≤ (x19_2 : Int) := odt_
           have q284 : x19_2 < (l1.length : Int) := odt_
           obtain ⟨ad284, e284, hx284_0, hx284_1⟩ := at_T38 HR1.out x19_2 p284 q284
           cases e284
           (first | replace hx284_0 := (HB.out.cell (World.block_lt_of_cell? w _ hx284_0)).trans hx284_0 | skip)
           (first | replace hx284_1 := (HB.out.cell (World.block_lt_of_cell? w _ hx284_1)).trans hx284_1 | skip)
           replace p284 := eq_true p284
           replace q284 := eq_true q284
           try go_wp2_with (first | ((with_reducible refine gate_dst (N := 6) rfl ?_); (try (refine gate_guard (by rfl) ?_; dsimp only)); refine bxe_ 6 #[.int .i64 0, .int .i64 0] 38 ?_; intro gb285 hg w28 hbox hb; have BK285 := Aside0.mk (hbox); have GW285 := gz_ w hg; have GE285 := gz_ w hg; replace HB := Aside0.mk (below_step blw_ hb); clear hb hbox hg; have hcz29_0 := blc_ (.int .i64 0) BK285 0; have hcz29_1 := blc_ (.int .i64 0) BK285 1; have hfz29_0 := blk_frozen BK285.out 0; have hfz29_1 := blk_frozen BK285.out 1))
           have n0_ : Aside0 (((w28.setCell ⟨gb285, 0, none⟩ (.int .i64 ((rd_T38 l1 x19_2).f0))).setCell ⟨gb285, 1, none⟩ (.int .i64 ((rd_T38 l1 x19_2).f1))).heap[gb285]? = some (.cells #[.int .i64 ((rd_T38 l1 x19_2).f0), .int .i64 ((rd_T38 l1 x19_2).f1)] 38 (0, 0))) := ⟨by (with_reducible repeat (first | refine blk_drewN ?_ _ | refine blk_drew ?_ | refine blk_alloc ?_ _)); refine blk_put (cs := #[.int .i64 ((rd_T38 l1 x19_2).f0), .int .i64 0]) ?_ 1 _ rfl; (with_reducible repeat (first | refine blk_drewN ?_ _ | refine blk_drew ?_ | refine blk_alloc ?_ _)); refine blk_put (cs := #[.int .i64 0, .int .i64 0]) ?_ 0 _ rfl; (with_reducible repeat (first | refine blk_drewN ?_ _ | refine blk_drew ?_ | refine blk_alloc ?_ _)); exact BK285.out⟩
           have n1_ : Aside0 (Below w.heap.size w ((w28.setCell ⟨gb285, 0, none⟩ (.int .i64 ((rd_T38 l1 x19_2).f0))).setCell ⟨gb285, 1, none⟩ (.int .i64 ((rd_T38 l1 x19_2).f1)))) := ⟨bls_⟩
           (try clear BK285)
           (try clear HB)
           generalize ((w28.setCell ⟨gb285, 0, none⟩ (.int .i64 ((rd_T38 l1 x19_2).f0))).setCell ⟨gb285, 1, none⟩ (.int .i64 ((rd_T38 l1 x19_2).f1))) = w30 at n0_ n1_ ⊢
           have BK285 := n0_
           have HB := n1_
           clear n0_ n1_
           replace BK285 := Aside0.mk (blk_drew BK285.out)
           replace HB := Aside0.mk (below_drew1 HB.out)
           have p287 : 0 ≤ ((ji13) : Int) := odt_
           have q287 : (ji13) < (l1.length : Int) := odt_
           obtain ⟨ad287, e287, hx287_0, hx287_1⟩ := at_T38 HR1.out (ji13) p287 q287
           have hw287_1 := hx287_1
           have hw287_0 := hx287_0
           obtain rfl : ad284 = ad287 := (by injection e287)
           (first | replace hx287_0 := (HB.out.cell (World.block_lt_of_cell? w _ hx287_0)).trans hx287_0 | skip)
           (first | replace hx287_1 := (HB.out.cell (World.block_lt_of_cell? w _ hx287_1)).trans hx287_1 | skip)
           replace p287 := eq_true p287
           replace q287 := eq_true q287
           refine start_ (n := 25) (S := fun w' => w'.cell? ⟨gb285, 0, none⟩ = some (.int .i64 ((rd_T38 l1 x19_2).f0)) ∧ w'.cell? ⟨gb285, 1, none⟩ = some (.int .i64 ((rd_T38 l1 x19_2).f1)) ∧ w'.cell? (ad284.add (((ji13)).toNat * 2)) = some (.int .i64 ((rd_T38 l1 (ji13)).f0)) ∧ w'.cell? ⟨(ad284.add (((ji13)).toNat * 2)).block, (ad284.add (((ji13)).toNat * 2)).off + 1, none⟩ = some (.int .i64 ((rd_T38 l1 (ji13)).f1))) (ds := []) #[false, false, false, false, false, false, false, false, false, false, false, false, false, false, false, false, false, false, false, false, false, false, false, false, false] (by kernel_rfl) rfl rfl ⟨(blk_cell BK285.out 0).trans rfl, (blk_cell BK285.out 1).trans rfl, ((HB.out.cell (World.block_lt_of_cell? w _ hw287_0)).trans hw287_0), ((HB.out.cell (World.block_lt_of_cell? w _ hw287_1)).trans hw287_1)⟩ (fun hHeld => ?_); refine with_tabW impl_IsTriangulation.tab6 impl_IsTriangulation.bits6 (fun HT_ HW_ => ?_)
           generalize w30.drew = w31 at BK285 HB hx287_0 hx287_1 hHeld ⊢
           refine pux_ 0 24 HT_ ?_
           refine tak_ 1 25 HT_ HW_ hHeld ?_
           refine oner_ 2 26 HT_ (fun K hK => ?_)
           refine goes_ Tryz.func42 (by kernel_rfl) rfl #[.int .i64 a0, .agg #[.int .i64 ((rd_T38 l1 x19_2).f0), .int .i64 ((rd_T38 l1 x19_2).f1)]] (by rfl) rfl rfl amp_ ?_
           with_reducible refine (impl_isDiagonal.calls a0 ((rd_T38 l1 x19_2).f0) ((rd_T38 l1 x19_2).f1) true _ A10.out).mono ?_
           rintro e w32 ⟨rfl, hb⟩
           refine ⟨_, rfl, ?_⟩
           replace BK285 := bb_ BK285 hb
           replace HB := Aside0.mk (below_step bls_ hb)
           (try clear hb)
           (try clear hb2)
           (try clear hk)
           (try clear hi)
           refine hK.out _ _ ⟨(blk_cell BK285.out 0).trans rfl, (blk_cell BK285.out 1).trans rfl, ((HB.out.cell (World.block_lt_of_cell? w _ hw287_0)).trans hw287_0), ((HB.out.cell (World.block_lt_of_cell? w _ hw287_1)).trans hw287_1)⟩ (fun hHeld => ?_)
           clear hK K
           refine nor_ 26 ?_
           refine pux_ 3 27 HT_ ?_
           refine pux_ 4 28 HT_ ?_
           refine pux_ 5 29 HT_ ?_
           refine pux_ 6 30 HT_ ?_
           refine pux_ 7 31 HT_ ?_
           refine pux_ 8 32 HT_ ?_
           refine pux_ 9 33 HT_ ?_
           refine pux_ 10 34 HT_ ?_
           refine pux_ 11 35 HT_ ?_
           refine tak_ 12 36 HT_ HW_ hHeld ?_
           refine tak_ 13 37 HT_ HW_ hHeld ?_
           refine oner_ 14 38 HT_ (fun K hK => ?_)
           refine goes_ Tryz.func43 (by kernel_rfl) rfl #[.agg #[.int .i64 ((rd_T38 l1 (ji13)).f0), .int .i64 ((rd_T38 l1 (ji13)).f1)], .agg #[.int .i64 ((rd_T38 l1 x19_2).f0), .int .i64 ((rd_T38 l1 x19_2).f1)]] (by rfl) rfl rfl (by (try simp only [List.map_toArray, List.map_cons, List.map_nil]); first | done | (simp only [hji13]; rfl) | rfl | (simp only [List.length_drop, List.length_take]; rfl)) ?_
           with_reducible refine (impl_compareDiagonals.calls k2 ((rd_T38 l1 (ji13)).f0) ((rd_T38 l1 (ji13)).f1) ((rd_T38 l1 x19_2).f0) ((rd_T38 l1 x19_2).f1) t288 _ A16.out).mono ?_
           rintro e w33 ⟨rfl, hb⟩
           refine ⟨_, rfl, ?_⟩
           replace BK285 := bb_ BK285 hb
           replace HB := Aside0.mk (below_step bls_ hb)
           (try clear hb)
           (try clear hb2)
           (try clear hk)
           (try clear hi)
           have q34 : (x19_2 : Int) ≤ ((l1.length : Int) : Int) := odt_
           obtain ⟨i034, hi034, _, hsz34, _⟩ := info_parts info38
           have hroom34 : l1.length ≤ c1 := HC1.out
           have hC34 : Kd.C k38 _ (some ad284) l1.length l1 := HR1.out
           have hcut34 := cut_to (P := Tryz.prog) 27 38 .i64 Tryz.underlying27 hi034 (some ad284) l1.length c1 x19_2 (odt_) q34 hroom34
           have hr34 := Kd.C_take (m := (x19_2 : Int).toNat) hC34 (by omega)
           have hy34 : y289.length = (x19_2 : Int).toNat := (by rw [Ny289.out, List.length_take]; omega)
           rw [← Ny289.out] at hr34
           rw [← hy34] at hcut34
           have HR292 := Aside0.mk hr34
           have HC292 := Aside0.mk (show y289.length ≤ c1 from by omega)
           clear hr34 hC34 hroom34 hi034 hsz34
           have KY34 := Aside0.mk hy34
           clear hy34
           replace q34 := eq_true q34
           refine hK.out _ _ ⟨(blk_cell BK285.out 0).trans rfl, (blk_cell BK285.out 1).trans rfl, ((HB.out.cell (World.block_lt_of_cell? w _ hw287_0)).trans hw287_0), ((HB.out.cell (World.block_lt_of_cell? w _ hw287_1)).trans hw287_1)⟩ (fun hHeld => ?_)
           clear hK K
           refine nor_ 38 ?_
           refine pux_ 15 39 HT_ ?_
           refine pux_ 16 40 HT_ ?_
           refine pux_ 17 41 HT_ ?_
           refine pux_ 18 42 HT_ ?_
           refine pux_ 19 43 HT_ ?_
           refine pux_ 20 44 HT_ ?_
           refine pux_ 21 45 HT_ ?_
           refine pux_ 22 46 HT_ ?_
           refine oner_ 23 47 HT_ (fun K hK => ?_)
           refine goes_ Tryz.func29 (by kernel_rfl) rfl #[.slice (some ad284) y289.length c1, .func (.func 44) #[] #[.pointer (some ⟨gb285, 0, none⟩)]] (by rfl) rfl rfl amp_ ?_
           with_reducible refine (impl_Diagonal_29_s0.calls k2 _ _ y289 gb285 ((rd_T38 l1 x19_2).f0) ((rd_T38 l1 x19_2).f1) true _ ?side1 ?side2 ?side3 A26.out).mono ?_
           (case side1 => exact cd_ (Kd.C_below HR292.out HB.out))
           (case side2 => exact HC292.out)
           (case side3 => (with_reducible repeat (first | refine blk_drewN ?_ _ | refine blk_drew ?_ | refine blk_alloc ?_ _)); exact BK285.out)
           rintro e w35 ⟨rfl, hb⟩
           refine ⟨_, rfl, ?_⟩
           replace BK285 := bb_ BK285 hb
           replace HB := Aside0.mk (below_step bls_ hb)
           (try clear hb)
           (try clear hb2)
           (try clear hk)
           (try clear hi)
           refine hK.out _ _ ⟨(blk_cell BK285.out 0).trans rfl, (blk_cell BK285.out 1).trans rfl, ((HB.out.cell (World.block_lt_of_cell? w _ hw287_0)).trans hw287_0), ((HB.out.cell (World.block_lt_of_cell? w _ hw287_1)).trans hw287_1)⟩ (fun hHeld => ?_)
           clear hK K
           refine nor_ 47 ?_
           refine pux_ 24 48 HT_ ?_
           refine done_ (done_of HT_.out (by kernel_rfl)) ?_
           try go_wp2
           go_ret
           exact ⟨by first | rfl | (simp [errW_none, errW_some] <;> rfl) | (simp only [← hji13]; first | rfl | (simp [errW_none, errW_some] <;> rfl)) | (simp [*, errW_none, errW_some] <;> rfl), bls_⟩
          ·replace c27 := Bool.eq_false_iff.mpr c27
           subst c27
           replace H : (impl_IsTriangulation.l0 k2 a0 l1 l1 (l1.length : Int) (wrap64 (x19_2 + 1))) = some r := by rw [if_neg (show ¬ (false = true) by decide)] at H; exact H
           have H' := Aside0.mk H
           clear H
           have p284 : 0 ≤ (x19_2 : Int) := odt_
           have q284 : x19_2 < (l1.length : Int) := odt_
           obtain ⟨ad284, e284, hx284_0, hx284_1⟩ := at_T38 HR1.out x19_2 p284 q284
           cases e284
           (first | replace hx284_0 := (HB.out.cell (World.block_lt_of_cell? w _ hx284_0)).trans hx284_0 | skip)
           (first | replace hx284_1 := (HB.out.cell (World.block_lt_of_cell? w _ hx284_1)).trans hx284_1 | skip)
           replace p284 := eq_true p284
           replace q284 := eq_true q284
           try go_wp2_with (first | ((with_reducible refine gate_dst (N := 6) rfl ?_); (try (refine gate_guard (by rfl) ?_; dsimp only)); refine bxe_ 6 #[.int .i64 0, .int .i64 0] 38 ?_; intro gb285 hg w36 hbox hb; have BK285 := Aside0.mk (hbox); have GW285 := gz_ w hg; have GE285 := gz_ w hg; replace HB := Aside0.mk (below_step blw_ hb); clear hb hbox hg; have hcz37_0 := blc_ (.int .i64 0) BK285 0; have hcz37_1 := blc_ (.int .i64 0) BK285 1; have hfz37_0 := blk_frozen BK285.out 0; have hfz37_1 := blk_frozen BK285.out 1))
           have n0_ : Aside0 (((w36.setCell ⟨gb285, 0, none⟩ (.int .i64 ((rd_T38 l1 x19_2).f0))).setCell ⟨gb285, 1, none⟩ (.int .i64 ((rd_T38 l1 x19_2).f1))).heap[gb285]? = some (.cells #[.int .i64 ((rd_T38 l1 x19_2).f0), .int .i64 ((rd_T38 l1 x19_2).f1)] 38 (0, 0))) := ⟨by (with_reducible repeat (first | refine blk_drewN ?_ _ | refine blk_drew ?_ | refine blk_alloc ?_ _)); refine blk_put (cs := #[.int .i64 ((rd_T38 l1 x19_2).f0), .int .i64 0]) ?_ 1 _ rfl; (with_reducible repeat (first | refine blk_drewN ?_ _ | refine blk_drew ?_ | refine blk_alloc ?_ _)); refine blk_put (cs := #[.int .i64 0, .int .i64 0]) ?_ 0 _ rfl; (with_reducible repeat (first | refine blk_drewN ?_ _ | refine blk_drew ?_ | refine blk_alloc ?_ _)); exact BK285.out⟩
           have n1_ : Aside0 (Below w.heap.size w ((w36.setCell ⟨gb285, 0, none⟩ (.int .i64 ((rd_T38 l1 x19_2).f0))).setCell ⟨gb285, 1, none⟩ (.int .i64 ((rd_T38 l1 x19_2).f1)))) := ⟨bls_⟩
           (try clear BK285)
           (try clear HB)
           generalize ((w36.setCell ⟨gb285, 0, none⟩ (.int .i64 ((rd_T38 l1 x19_2).f0))).setCell ⟨gb285, 1, none⟩ (.int .i64 ((rd_T38 l1 x19_2).f1))) = w38 at n0_ n1_ ⊢
           have BK285 := n0_
           have HB := n1_
           clear n0_ n1_
           replace BK285 := Aside0.mk (blk_drew BK285.out)
           replace HB := Aside0.mk (below_drew1 HB.out)
           have p287 : 0 ≤ ((ji13) : Int) := odt_
           have q287 : (ji13) < (l1.length : Int) := odt_
           obtain ⟨ad287, e287, hx287_0, hx287_1⟩ := at_T38 HR1.out (ji13) p287 q287
           have hw287_1 := hx287_1
           have hw287_0 := hx287_0
           obtain rfl : ad284 = ad287 := (by injection e287)
           (first | replace hx287_0 := (HB.out.cell (World.block_lt_of_cell? w _ hx287_0)).trans hx287_0 | skip)
           (first | replace hx287_1 := (HB.out.cell (World.block_lt_of_cell? w _ hx287_1)).trans hx287_1 | skip)
           replace p287 := eq_true p287
           replace q287 := eq_true q287
           refine start_ (n := 25) (S := fun w' => w'.cell? ⟨gb285, 0, none⟩ = some (.int .i64 ((rd_T38 l1 x19_2).f0)) ∧ w'.cell? ⟨gb285, 1, none⟩ = some (.int .i64 ((rd_T38 l1 x19_2).f1)) ∧ w'.cell? (ad284.add (((ji13)).toNat * 2)) = some (.int .i64 ((rd_T38 l1 (ji13)).f0)) ∧ w'.cell? ⟨(ad284.add (((ji13)).toNat * 2)).block, (ad284.add (((ji13)).toNat * 2)).off + 1, none⟩ = some (.int .i64 ((rd_T38 l1 (ji13)).f1))) (ds := []) #[false, false, false, false, false, false, false, false, false, false, false, false, false, false, false, false, false, false, false, false, false, false, false, false, false] (by kernel_rfl) rfl rfl ⟨(blk_cell BK285.out 0).trans rfl, (blk_cell BK285.out 1).trans rfl, ((HB.out.cell (World.block_lt_of_cell? w _ hw287_0)).trans hw287_0), ((HB.out.cell (World.block_lt_of_cell? w _ hw287_1)).trans hw287_1)⟩ (fun hHeld => ?_); refine with_tabW impl_IsTriangulation.tab6 impl_IsTriangulation.bits6 (fun HT_ HW_ => ?_)
           generalize w38.drew = w39 at BK285 HB hx287_0 hx287_1 hHeld ⊢
           refine pux_ 0 24 HT_ ?_
           refine tak_ 1 25 HT_ HW_ hHeld ?_
           refine oner_ 2 26 HT_ (fun K hK => ?_)
           refine goes_ Tryz.func42 (by kernel_rfl) rfl #[.int .i64 a0, .agg #[.int .i64 ((rd_T38 l1 x19_2).f0), .int .i64 ((rd_T38 l1 x19_2).f1)]] (by rfl) rfl rfl amp_ ?_
           with_reducible refine (impl_isDiagonal.calls a0 ((rd_T38 l1 x19_2).f0) ((rd_T38 l1 x19_2).f1) true _ A10.out).mono ?_
           rintro e w40 ⟨rfl, hb⟩
           refine ⟨_, rfl, ?_⟩
           replace BK285 := bb_ BK285 hb
           replace HB := Aside0.mk (below_step bls_ hb)
           (try clear hb)
           (try clear hb2)
           (try clear hk)
           (try clear hi)
           refine hK.out _ _ ⟨(blk_cell BK285.out 0).trans rfl, (blk_cell BK285.out 1).trans rfl, ((HB.out.cell (World.block_lt_of_cell? w _ hw287_0)).trans hw287_0), ((HB.out.cell (World.block_lt_of_cell? w _ hw287_1)).trans hw287_1)⟩ (fun hHeld => ?_)
           clear hK K
           refine nor_ 26 ?_
           refine pux_ 3 27 HT_ ?_
           refine pux_ 4 28 HT_ ?_
           refine pux_ 5 29 HT_ ?_
           refine pux_ 6 30 HT_ ?_
           refine pux_ 7 31 HT_ ?_
           refine pux_ 8 32 HT_ ?_
           refine pux_ 9 33 HT_ ?_
           refine pux_ 10 34 HT_ ?_
           refine pux_ 11 35 HT_ ?_
           refine tak_ 12 36 HT_ HW_ hHeld ?_
           refine tak_ 13 37 HT_ HW_ hHeld ?_
           refine oner_ 14 38 HT_ (fun K hK => ?_)
           refine goes_ Tryz.func43 (by kernel_rfl) rfl #[.agg #[.int .i64 ((rd_T38 l1 (ji13)).f0), .int .i64 ((rd_T38 l1 (ji13)).f1)], .agg #[.int .i64 ((rd_T38 l1 x19_2).f0), .int .i64 ((rd_T38 l1 x19_2).f1)]] (by rfl) rfl rfl (by (try simp only [List.map_toArray, List.map_cons, List.map_nil]); first | done | (simp only [hji13]; rfl) | rfl | (simp only [List.length_drop, List.length_take]; rfl)) ?_
           with_reducible refine (impl_compareDiagonals.calls k2 ((rd_T38 l1 (ji13)).f0) ((rd_T38 l1 (ji13)).f1) ((rd_T38 l1 x19_2).f0) ((rd_T38 l1 x19_2).f1) t288 _ A16.out).mono ?_
           rintro e w41 ⟨rfl, hb⟩
           refine ⟨_, rfl, ?_⟩
           replace BK285 := bb_ BK285 hb
           replace HB := Aside0.mk (below_step bls_ hb)
           (try clear hb)
           (try clear hb2)
           (try clear hk)
           (try clear hi)
           have q42 : (x19_2 : Int) ≤ ((l1.length : Int) : Int) := odt_
           obtain ⟨i042, hi042, _, hsz42, _⟩ := info_parts info38
           have hroom42 : l1.length ≤ c1 := HC1.out
           have hC42 : Kd.C k38 _ (some ad284) l1.length l1 := HR1.out
           have hcut42 := cut_to (P := Tryz.prog) 27 38 .i64 Tryz.underlying27 hi042 (some ad284) l1.length c1 x19_2 (odt_) q42 hroom42
           have hr42 := Kd.C_take (m := (x19_2 : Int).toNat) hC42 (by omega)
           have hy42 : y289.length = (x19_2 : Int).toNat := (by rw [Ny289.out, List.length_take]; omega)
           rw [← Ny289.out] at hr42
           rw [← hy42] at hcut42
           have HR292 := Aside0.mk hr42
           have HC292 := Aside0.mk (show y289.length ≤ c1 from by omega)
           clear hr42 hC42 hroom42 hi042 hsz42
           have KY42 := Aside0.mk hy42
           clear hy42
           replace q42 := eq_true q42
           refine hK.out _ _ ⟨(blk_cell BK285.out 0).trans rfl, (blk_cell BK285.out 1).trans rfl, ((HB.out.cell (World.block_lt_of_cell? w _ hw287_0)).trans hw287_0), ((HB.out.cell (World.block_lt_of_cell? w _ hw287_1)).trans hw287_1)⟩ (fun hHeld => ?_)
           clear hK K
           refine nor_ 38 ?_
           refine pux_ 15 39 HT_ ?_
           refine pux_ 16 40 HT_ ?_
           refine pux_ 17 41 HT_ ?_
           refine pux_ 18 42 HT_ ?_
           refine pux_ 19 43 HT_ ?_
           refine pux_ 20 44 HT_ ?_
           refine pux_ 21 45 HT_ ?_
           refine pux_ 22 46 HT_ ?_
           refine oner_ 23 47 HT_ (fun K hK => ?_)
           refine goes_ Tryz.func29 (by kernel_rfl) rfl #[.slice (some ad284) y289.length c1, .func (.func 44) #[] #[.pointer (some ⟨gb285, 0, none⟩)]] (by rfl) rfl rfl amp_ ?_
           with_reducible refine (impl_Diagonal_29_s0.calls k2 _ _ y289 gb285 ((rd_T38 l1 x19_2).f0) ((rd_T38 l1 x19_2).f1) false _ ?side1 ?side2 ?side3 A26.out).mono ?_
           (case side1 => exact cd_ (Kd.C_below HR292.out HB.out))
           (case side2 => exact HC292.out)
           (case side3 => (with_reducible repeat (first | refine blk_drewN ?_ _ | refine blk_drew ?_ | refine blk_alloc ?_ _)); exact BK285.out)
           rintro e w43 ⟨rfl, hb⟩
           refine ⟨_, rfl, ?_⟩
           replace BK285 := bb_ BK285 hb
           replace HB := Aside0.mk (below_step bls_ hb)
           (try clear hb)
           (try clear hb2)
           (try clear hk)
           (try clear hi)
           refine hK.out _ _ ⟨(blk_cell BK285.out 0).trans rfl, (blk_cell BK285.out 1).trans rfl, ((HB.out.cell (World.block_lt_of_cell? w _ hw287_0)).trans hw287_0), ((HB.out.cell (World.block_lt_of_cell? w _ hw287_1)).trans hw287_1)⟩ (fun hHeld => ?_)
           clear hK K
           refine nor_ 47 ?_
           refine pux_ 24 48 HT_ ?_
           refine done_ (done_of HT_.out (by kernel_rfl)) ?_
           try go_wp2
           go_roundg k2
           case measure => have := HJ2.out; have := HK2.out; omega
           case rel => exact ⟨(wrap64 (x19_2 + 1)), rsd_, H', ⟨by have := HJ2.out; have := HK2.out; omega⟩, ⟨bls_⟩⟩
        ·rw [if_neg c12] at H
         have c12b0 : decide (0 < x19_2) = false := decide_eq_false c12
         clear c12
         have c44b0 := eq_true (odt_ : 0 ≤ x19_2)
         by_cases c45 : x19_2 ≤ (l1.length : Int)
         case neg=>rw [if_neg c45] at H;exact absurd H (by simp)
         rw [if_pos c45] at H
         have c45b0 := eq_true c45
         have c45b1 : decide (x19_2 ≤ (l1.length : Int)) = true := decide_eq_true c45
         clear c45
         obtain ⟨y294, hy294⟩ : ∃ y_ : List (S38), y_ = (l1.take (x19_2 : Int).toNat) := ⟨_, rfl⟩
         replace H : ((impl_Diagonal_29_s0.f k2 y294 ((rd_T38 l1 x19_2).f0) ((rd_T38 l1 x19_2).f1)).bind fun t298 => (if t298 = true then (some false) else (impl_IsTriangulation.l0 k2 a0 l1 l1 (l1.length : Int) (wrap64 (x19_2 + 1))))) = some r := hyy_ hy294 H
         have Ny294 := Aside0.mk hy294
         clear hy294
         replace H := Option.bind_eq_some_iff.mp H
         obtain ⟨t298, A460, H⟩ := H
         replace H : (if t298 = true then (some false) else (impl_IsTriangulation.l0 k2 a0 l1 l1 (l1.length : Int) (wrap64 (x19_2 + 1)))) = some r := H
         have A46 := Aside0.mk A460
         clear A460
         by_cases c47 : t298 = true
         ·subst c47
          replace H : (some false) = some r := by rw [if_pos rfl] at H; exact H
          obtain rfl := Option.some.inj H
          have p284 : 0 ≤ (x19_2 : Int) := odt_
          have q284 : x19_2 < (l1.length : Int) := odt_
          obtain ⟨ad284, e284, hx284_0, hx284_1⟩ := at_T38 HR1.out x19_2 p284 q284
          cases e284
          (first | replace hx284_0 := (HB.out.cell (World.block_lt_of_cell? w _ hx284_0)).trans hx284_0 | skip)
          (first | replace hx284_1 := (HB.out.cell (World.block_lt_of_cell? w _ hx284_1)).trans hx284_1 | skip)
          replace p284 := eq_true p284
          replace q284 := eq_true q284
          try go_wp2_with (first | ((with_reducible refine gate_dst (N := 6) rfl ?_); (try (refine gate_guard (by rfl) ?_; dsimp only)); refine bxe_ 6 #[.int .i64 0, .int .i64 0] 38 ?_; intro gb285 hg w48 hbox hb; have BK285 := Aside0.mk (hbox); have GW285 := gz_ w hg; have GE285 := gz_ w hg; replace HB := Aside0.mk (below_step blw_ hb); clear hb hbox hg; have hcz49_0 := blc_ (.int .i64 0) BK285 0; have hcz49_1 := blc_ (.int .i64 0) BK285 1; have hfz49_0 := blk_frozen BK285.out 0; have hfz49_1 := blk_frozen BK285.out 1))
          have n0_ : Aside0 (((w48.setCell ⟨gb285, 0, none⟩ (.int .i64 ((rd_T38 l1 x19_2).f0))).setCell ⟨gb285, 1, none⟩ (.int .i64 ((rd_T38 l1 x19_2).f1))).heap[gb285]? = some (.cells #[.int .i64 ((rd_T38 l1 x19_2).f0), .int .i64 ((rd_T38 l1 x19_2).f1)] 38 (0, 0))) := ⟨by (with_reducible repeat (first | refine blk_drewN ?_ _ | refine blk_drew ?_ | refine blk_alloc ?_ _)); refine blk_put (cs := #[.int .i64 ((rd_T38 l1 x19_2).f0), .int .i64 0]) ?_ 1 _ rfl; (with_reducible repeat (first | refine blk_drewN ?_ _ | refine blk_drew ?_ | refine blk_alloc ?_ _)); refine blk_put (cs := #[.int .i64 0, .int .i64 0]) ?_ 0 _ rfl; (with_reducible repeat (first | refine blk_drewN ?_ _ | refine blk_drew ?_ | refine blk_alloc ?_ _)); exact BK285.out⟩
          have n1_ : Aside0 (Below w.heap.size w ((w48.setCell ⟨gb285, 0, none⟩ (.int .i64 ((rd_T38 l1 x19_2).f0))).setCell ⟨gb285, 1, none⟩ (.int .i64 ((rd_T38 l1 x19_2).f1)))) := ⟨bls_⟩
          (try clear BK285)
          (try clear HB)
          generalize ((w48.setCell ⟨gb285, 0, none⟩ (.int .i64 ((rd_T38 l1 x19_2).f0))).setCell ⟨gb285, 1, none⟩ (.int .i64 ((rd_T38 l1 x19_2).f1))) = w50 at n0_ n1_ ⊢
          have BK285 := n0_
          have HB := n1_
          clear n0_ n1_
          replace BK285 := Aside0.mk (blk_drew BK285.out)
          replace HB := Aside0.mk (below_drew1 HB.out)
          refine start_ (n := 25) (S := fun w' => w'.cell? ⟨gb285, 0, none⟩ = some (.int .i64 ((rd_T38 l1 x19_2).f0)) ∧ w'.cell? ⟨gb285, 1, none⟩ = some (.int .i64 ((rd_T38 l1 x19_2).f1))) (ds := []) #[false, false, false, false, false, false, false, false, false, false, false, false, false, false, false, false, false, false, false, false, false, false, false, false, false] (by kernel_rfl) rfl rfl ⟨(blk_cell BK285.out 0).trans rfl, (blk_cell BK285.out 1).trans rfl⟩ (fun hHeld => ?_); refine with_tabW impl_IsTriangulation.tab6 impl_IsTriangulation.bits6 (fun HT_ HW_ => ?_)
          generalize w50.drew = w51 at BK285 HB hHeld ⊢
          refine pux_ 0 24 HT_ ?_
          refine tak_ 1 25 HT_ HW_ hHeld ?_
          refine oner_ 2 26 HT_ (fun K hK => ?_)
          refine goes_ Tryz.func42 (by kernel_rfl) rfl #[.int .i64 a0, .agg #[.int .i64 ((rd_T38 l1 x19_2).f0), .int .i64 ((rd_T38 l1 x19_2).f1)]] (by rfl) rfl rfl amp_ ?_
          with_reducible refine (impl_isDiagonal.calls a0 ((rd_T38 l1 x19_2).f0) ((rd_T38 l1 x19_2).f1) true _ A10.out).mono ?_
          rintro e w52 ⟨rfl, hb⟩
          refine ⟨_, rfl, ?_⟩
          replace BK285 := bb_ BK285 hb
          replace HB := Aside0.mk (below_step bls_ hb)
          (try clear hb)
          (try clear hb2)
          (try clear hk)
          (try clear hi)
          have q53 : (x19_2 : Int) ≤ ((l1.length : Int) : Int) := odt_
          obtain ⟨i053, hi053, _, hsz53, _⟩ := info_parts info38
          have hroom53 : l1.length ≤ c1 := HC1.out
          have hC53 : Kd.C k38 _ (some ad284) l1.length l1 := HR1.out
          have hcut53 := cut_to (P := Tryz.prog) 27 38 .i64 Tryz.underlying27 hi053 (some ad284) l1.length c1 x19_2 (odt_) q53 hroom53
          have hr53 := Kd.C_take (m := (x19_2 : Int).toNat) hC53 (by omega)
          have hy53 : y294.length = (x19_2 : Int).toNat := (by rw [Ny294.out, List.length_take]; omega)
          rw [← Ny294.out] at hr53
          rw [← hy53] at hcut53
          have HR297 := Aside0.mk hr53
          have HC297 := Aside0.mk (show y294.length ≤ c1 from by omega)
          clear hr53 hC53 hroom53 hi053 hsz53
          have KY53 := Aside0.mk hy53
          clear hy53
          replace q53 := eq_true q53
          refine hK.out _ _ ⟨(blk_cell BK285.out 0).trans rfl, (blk_cell BK285.out 1).trans rfl⟩ (fun hHeld => ?_)
          clear hK K
          refine nor_ 26 ?_
          refine pux_ 3 27 HT_ ?_
          refine pux_ 4 28 HT_ ?_
          refine pux_ 5 29 HT_ ?_
          refine pux_ 6 30 HT_ ?_
          refine pux_ 7 31 HT_ ?_
          refine puy_ 8 32 HT_ ?_
          refine puy_ 9 33 HT_ ?_
          refine puy_ 10 34 HT_ ?_
          refine puy_ 11 35 HT_ ?_
          refine puy_ 12 36 HT_ ?_
          refine puy_ 13 37 HT_ ?_
          refine puy_ 14 38 HT_ ?_
          refine puy_ 15 39 HT_ ?_
          refine pux_ 16 40 HT_ ?_
          refine pux_ 17 41 HT_ ?_
          refine pux_ 18 42 HT_ ?_
          refine pux_ 19 43 HT_ ?_
          refine pux_ 20 44 HT_ ?_
          refine pux_ 21 45 HT_ ?_
          refine pux_ 22 46 HT_ ?_
          refine oner_ 23 47 HT_ (fun K hK => ?_)
          refine goes_ Tryz.func29 (by kernel_rfl) rfl #[.slice (some ad284) y294.length c1, .func (.func 44) #[] #[.pointer (some ⟨gb285, 0, none⟩)]] (by rfl) rfl rfl amp_ ?_
          with_reducible refine (impl_Diagonal_29_s0.calls k2 _ _ y294 gb285 ((rd_T38 l1 x19_2).f0) ((rd_T38 l1 x19_2).f1) true _ ?side1 ?side2 ?side3 A46.out).mono ?_
          (case side1 => exact cd_ (Kd.C_below HR297.out HB.out))
          (case side2 => exact HC297.out)
          (case side3 => (with_reducible repeat (first | refine blk_drewN ?_ _ | refine blk_drew ?_ | refine blk_alloc ?_ _)); exact BK285.out)
          rintro e w54 ⟨rfl, hb⟩
          refine ⟨_, rfl, ?_⟩
          replace BK285 := bb_ BK285 hb
          replace HB := Aside0.mk (below_step bls_ hb)
          (try clear hb)
          (try clear hb2)
          (try clear hk)
          (try clear hi)
          refine hK.out _ _ ⟨(blk_cell BK285.out 0).trans rfl, (blk_cell BK285.out 1).trans rfl⟩ (fun hHeld => ?_)
          clear hK K
          refine nor_ 47 ?_
          refine pux_ 24 48 HT_ ?_
          refine done_ (done_of HT_.out (by kernel_rfl)) ?_
          try go_wp2
          go_ret
          exact er_
         ·replace c47 := Bool.eq_false_iff.mpr c47
          subst c47
          replace H : (impl_IsTriangulation.l0 k2 a0 l1 l1 (l1.length : Int) (wrap64 (x19_2 + 1))) = some r := by rw [if_neg (show ¬ (false = true) by decide)] at H; exact H
          have H' := Aside0.mk H
          clear H
          have p284 : 0 ≤ (x19_2 : Int) := odt_
          have q284 : x19_2 < (l1.length : Int) := odt_
          obtain ⟨ad284, e284, hx284_0, hx284_1⟩ := at_T38 HR1.out x19_2 p284 q284
          cases e284
          (first | replace hx284_0 := (HB.out.cell (World.block_lt_of_cell? w _ hx284_0)).trans hx284_0 | skip)
          (first | replace hx284_1 := (HB.out.cell (World.block_lt_of_cell? w _ hx284_1)).trans hx284_1 | skip)
          replace p284 := eq_true p284
          replace q284 := eq_true q284
          try go_wp2_with (first | ((with_reducible refine gate_dst (N := 6) rfl ?_); (try (refine gate_guard (by rfl) ?_; dsimp only)); refine bxe_ 6 #[.int .i64 0, .int .i64 0] 38 ?_; intro gb285 hg w55 hbox hb; have BK285 := Aside0.mk (hbox); have GW285 := gz_ w hg; have GE285 := gz_ w hg; replace HB := Aside0.mk (below_step blw_ hb); clear hb hbox hg; have hcz56_0 := blc_ (.int .i64 0) BK285 0; have hcz56_1 := blc_ (.int .i64 0) BK285 1; have hfz56_0 := blk_frozen BK285.out 0; have hfz56_1 := blk_frozen BK285.out 1))
          have n0_ : Aside0 (((w55.setCell ⟨gb285, 0, none⟩ (.int .i64 ((rd_T38 l1 x19_2).f0))).setCell ⟨gb285, 1, none⟩ (.int .i64 ((rd_T38 l1 x19_2).f1))).heap[gb285]? = some (.cells #[.int .i64 ((rd_T38 l1 x19_2).f0), .int .i64 ((rd_T38 l1 x19_2).f1)] 38 (0, 0))) := ⟨by (with_reducible repeat (first | refine blk_drewN ?_ _ | refine blk_drew ?_ | refine blk_alloc ?_ _)); refine blk_put (cs := #[.int .i64 ((rd_T38 l1 x19_2).f0), .int .i64 0]) ?_ 1 _ rfl; (with_reducible repeat (first | refine blk_drewN ?_ _ | refine blk_drew ?_ | refine blk_alloc ?_ _)); refine blk_put (cs := #[.int .i64 0, .int .i64 0]) ?_ 0 _ rfl; (with_reducible repeat (first | refine blk_drewN ?_ _ | refine blk_drew ?_ | refine blk_alloc ?_ _)); exact BK285.out⟩
          have n1_ : Aside0 (Below w.heap.size w ((w55.setCell ⟨gb285, 0, none⟩ (.int .i64 ((rd_T38 l1 x19_2).f0))).setCell ⟨gb285, 1, none⟩ (.int .i64 ((rd_T38 l1 x19_2).f1)))) := ⟨bls_⟩
          (try clear BK285)
          (try clear HB)
          generalize ((w55.setCell ⟨gb285, 0, none⟩ (.int .i64 ((rd_T38 l1 x19_2).f0))).setCell ⟨gb285, 1, none⟩ (.int .i64 ((rd_T38 l1 x19_2).f1))) = w57 at n0_ n1_ ⊢
          have BK285 := n0_
          have HB := n1_
          clear n0_ n1_
          replace BK285 := Aside0.mk (blk_drew BK285.out)
          replace HB := Aside0.mk (below_drew1 HB.out)
          refine start_ (n := 25) (S := fun w' => w'.cell? ⟨gb285, 0, none⟩ = some (.int .i64 ((rd_T38 l1 x19_2).f0)) ∧ w'.cell? ⟨gb285, 1, none⟩ = some (.int .i64 ((rd_T38 l1 x19_2).f1))) (ds := []) #[false, false, false, false, false, false, false, false, false, false, false, false, false, false, false, false, false, false, false, false, false, false, false, false, false] (by kernel_rfl) rfl rfl ⟨(blk_cell BK285.out 0).trans rfl, (blk_cell BK285.out 1).trans rfl⟩ (fun hHeld => ?_); refine with_tabW impl_IsTriangulation.tab6 impl_IsTriangulation.bits6 (fun HT_ HW_ => ?_)
          generalize w57.drew = w58 at BK285 HB hHeld ⊢
          refine pux_ 0 24 HT_ ?_
          refine tak_ 1 25 HT_ HW_ hHeld ?_
          refine oner_ 2 26 HT_ (fun K hK => ?_)
          refine goes_ Tryz.func42 (by kernel_rfl) rfl #[.int .i64 a0, .agg #[.int .i64 ((rd_T38 l1 x19_2).f0), .int .i64 ((rd_T38 l1 x19_2).f1)]] (by rfl) rfl rfl amp_ ?_
          with_reducible refine (impl_isDiagonal.calls a0 ((rd_T38 l1 x19_2).f0) ((rd_T38 l1 x19_2).f1) true _ A10.out).mono ?_
          rintro e w59 ⟨rfl, hb⟩
          refine ⟨_, rfl, ?_⟩
          replace BK285 := bb_ BK285 hb
          replace HB := Aside0.mk (below_step bls_ hb)
          (try clear hb)
          (try clear hb2)
          (try clear hk)
          (try clear hi)
          have q60 : (x19_2 : Int) ≤ ((l1.length : Int) : Int) := odt_
          obtain ⟨i060, hi060, _, hsz60, _⟩ := info_parts info38
          have hroom60 : l1.length ≤ c1 := HC1.out
          have hC60 : Kd.C k38 _ (some ad284) l1.length l1 := HR1.out
          have hcut60 := cut_to (P := Tryz.prog) 27 38 .i64 Tryz.underlying27 hi060 (some ad284) l1.length c1 x19_2 (odt_) q60 hroom60
          have hr60 := Kd.C_take (m := (x19_2 : Int).toNat) hC60 (by omega)
          have hy60 : y294.length = (x19_2 : Int).toNat := (by rw [Ny294.out, List.length_take]; omega)
          rw [← Ny294.out] at hr60
          rw [← hy60] at hcut60
          have HR297 := Aside0.mk hr60
          have HC297 := Aside0.mk (show y294.length ≤ c1 from by omega)
          clear hr60 hC60 hroom60 hi060 hsz60
          have KY60 := Aside0.mk hy60
          clear hy60
          replace q60 := eq_true q60
          refine hK.out _ _ ⟨(blk_cell BK285.out 0).trans rfl, (blk_cell BK285.out 1).trans rfl⟩ (fun hHeld => ?_)
          clear hK K
          refine nor_ 26 ?_
          refine pux_ 3 27 HT_ ?_
          refine pux_ 4 28 HT_ ?_
          refine pux_ 5 29 HT_ ?_
          refine pux_ 6 30 HT_ ?_
          refine pux_ 7 31 HT_ ?_
          refine puy_ 8 32 HT_ ?_
          refine puy_ 9 33 HT_ ?_
          refine puy_ 10 34 HT_ ?_
          refine puy_ 11 35 HT_ ?_
          refine puy_ 12 36 HT_ ?_
          refine puy_ 13 37 HT_ ?_
          refine puy_ 14 38 HT_ ?_
          refine puy_ 15 39 HT_ ?_
          refine pux_ 16 40 HT_ ?_
          refine pux_ 17 41 HT_ ?_
          refine pux_ 18 42 HT_ ?_
          refine pux_ 19 43 HT_ ?_
          refine pux_ 20 44 HT_ ?_
          refine pux_ 21 45 HT_ ?_
          refine pux_ 22 46 HT_ ?_
          refine oner_ 23 47 HT_ (fun K hK => ?_)
          refine goes_ Tryz.func29 (by kernel_rfl) rfl #[.slice (some ad284) y294.length c1, .func (.func 44) #[] #[.pointer (some ⟨gb285, 0, none⟩)]] (by rfl) rfl rfl amp_ ?_
          with_reducible refine (impl_Diagonal_29_s0.calls k2 _ _ y294 gb285 ((rd_T38 l1 x19_2).f0) ((rd_T38 l1 x19_2).f1) false _ ?side1 ?side2 ?side3 A46.out).mono ?_
          (case side1 => exact cd_ (Kd.C_below HR297.out HB.out))
          (case side2 => exact HC297.out)
          (case side3 => (with_reducible repeat (first | refine blk_drewN ?_ _ | refine blk_drew ?_ | refine blk_alloc ?_ _)); exact BK285.out)
          rintro e w61 ⟨rfl, hb⟩
          refine ⟨_, rfl, ?_⟩
          replace BK285 := bb_ BK285 hb
          replace HB := Aside0.mk (below_step bls_ hb)
          (try clear hb)
          (try clear hb2)
          (try clear hk)
          (try clear hi)
          refine hK.out _ _ ⟨(blk_cell BK285.out 0).trans rfl, (blk_cell BK285.out 1).trans rfl⟩ (fun hHeld => ?_)
          clear hK K
          refine nor_ 47 ?_
          refine pux_ 24 48 HT_ ?_
          refine done_ (done_of HT_.out (by kernel_rfl)) ?_
          try go_wp2
          go_roundg k2
          case measure => have := HJ2.out; have := HK2.out; omega
          case rel => exact ⟨(wrap64 (x19_2 + 1)), rsd_, H', ⟨by have := HJ2.out; have := HK2.out; omega⟩, ⟨bls_⟩⟩
       ·replace c11 := Bool.eq_false_iff.mpr c11
        subst c11
        replace H : (some false) = some r := by rw [if_neg (show ¬ (false = true) by decide)] at H; exact H
        obtain rfl := Option.some.inj H
        have p284 : 0 ≤ (x19_2 : Int) := odt_
        have q284 : x19_2 < (l1.length : Int) := odt_
        obtain ⟨ad284, e284, hx284_0, hx284_1⟩ := at_T38 HR1.out x19_2 p284 q284
        cases e284
        (first | replace hx284_0 := (HB.out.cell (World.block_lt_of_cell? w _ hx284_0)).trans hx284_0 | skip)
        (first | replace hx284_1 := (HB.out.cell (World.block_lt_of_cell? w _ hx284_1)).trans hx284_1 | skip)
        replace p284 := eq_true p284
        replace q284 := eq_true q284
        try go_wp2_with (first | ((with_reducible refine gate_dst (N := 6) rfl ?_); (try (refine gate_guard (by rfl) ?_; dsimp only)); refine bxe_ 6 #[.int .i64 0, .int .i64 0] 38 ?_; intro gb285 hg w62 hbox hb; have BK285 := Aside0.mk (hbox); have GW285 := gz_ w hg; have GE285 := gz_ w hg; replace HB := Aside0.mk (below_step blw_ hb); clear hb hbox hg; have hcz63_0 := blc_ (.int .i64 0) BK285 0; have hcz63_1 := blc_ (.int .i64 0) BK285 1; have hfz63_0 := blk_frozen BK285.out 0; have hfz63_1 := blk_frozen BK285.out 1))
        have n0_ : Aside0 (((w62.setCell ⟨gb285, 0, none⟩ (.int .i64 ((rd_T38 l1 x19_2).f0))).setCell ⟨gb285, 1, none⟩ (.int .i64 ((rd_T38 l1 x19_2).f1))).heap[gb285]? = some (.cells #[.int .i64 ((rd_T38 l1 x19_2).f0), .int .i64 ((rd_T38 l1 x19_2).f1)] 38 (0, 0))) := ⟨by (with_reducible repeat (first | refine blk_drewN ?_ _ | refine blk_drew ?_ | refine blk_alloc ?_ _)); refine blk_put (cs := #[.int .i64 ((rd_T38 l1 x19_2).f0), .int .i64 0]) ?_ 1 _ rfl; (with_reducible repeat (first | refine blk_drewN ?_ _ | refine blk_drew ?_ | refine blk_alloc ?_ _)); refine blk_put (cs := #[.int .i64 0, .int .i64 0]) ?_ 0 _ rfl; (with_reducible repeat (first | refine blk_drewN ?_ _ | refine blk_drew ?_ | refine blk_alloc ?_ _)); exact BK285.out⟩
        have n1_ : Aside0 (Below w.heap.size w ((w62.setCell ⟨gb285, 0, none⟩ (.int .i64 ((rd_T38 l1 x19_2).f0))).setCell ⟨gb285, 1, none⟩ (.int .i64 ((rd_T38 l1 x19_2).f1)))) := ⟨bls_⟩
        (try clear BK285)
        (try clear HB)
        generalize ((w62.setCell ⟨gb285, 0, none⟩ (.int .i64 ((rd_T38 l1 x19_2).f0))).setCell ⟨gb285, 1, none⟩ (.int .i64 ((rd_T38 l1 x19_2).f1))) = w64 at n0_ n1_ ⊢
        have BK285 := n0_
        have HB := n1_
        clear n0_ n1_
        replace BK285 := Aside0.mk (blk_drew BK285.out)
        replace HB := Aside0.mk (below_drew1 HB.out)
        refine start_ (n := 25) (S := fun w' => w'.cell? ⟨gb285, 0, none⟩ = some (.int .i64 ((rd_T38 l1 x19_2).f0)) ∧ w'.cell? ⟨gb285, 1, none⟩ = some (.int .i64 ((rd_T38 l1 x19_2).f1))) (ds := []) #[false, false, false, false, false, false, false, false, false, false, false, false, false, false, false, false, false, false, false, false, false, false, false, false, false] (by kernel_rfl) rfl rfl ⟨(blk_cell BK285.out 0).trans rfl, (blk_cell BK285.out 1).trans rfl⟩ (fun hHeld => ?_); refine with_tabW impl_IsTriangulation.tab6 impl_IsTriangulation.bits6 (fun HT_ HW_ => ?_)
        generalize w64.drew = w65 at BK285 HB hHeld ⊢
        refine pux_ 0 24 HT_ ?_
        refine tak_ 1 25 HT_ HW_ hHeld ?_
        refine oner_ 2 26 HT_ (fun K hK => ?_)
        refine goes_ Tryz.func42 (by kernel_rfl) rfl #[.int .i64 a0, .agg #[.int .i64 ((rd_T38 l1 x19_2).f0), .int .i64 ((rd_T38 l1 x19_2).f1)]] (by rfl) rfl rfl amp_ ?_
        with_reducible refine (impl_isDiagonal.calls a0 ((rd_T38 l1 x19_2).f0) ((rd_T38 l1 x19_2).f1) false _ A10.out).mono ?_
        rintro e w66 ⟨rfl, hb⟩
        refine ⟨_, rfl, ?_⟩
        replace BK285 := bb_ BK285 hb
        replace HB := Aside0.mk (below_step bls_ hb)
        (try clear hb)
        (try clear hb2)
        (try clear hk)
        (try clear hi)
        refine hK.out _ _ ⟨(blk_cell BK285.out 0).trans rfl, (blk_cell BK285.out 1).trans rfl⟩ (fun hHeld => ?_)
        clear hK K
        refine nor_ 26 ?_
        refine pux_ 3 27 HT_ ?_
        refine pux_ 4 28 HT_ ?_
        refine puy_ 5 29 HT_ ?_
        refine puy_ 6 30 HT_ ?_
        refine puy_ 7 31 HT_ ?_
        refine puy_ 8 32 HT_ ?_
        refine puy_ 9 33 HT_ ?_
        refine puy_ 10 34 HT_ ?_
        refine puy_ 11 35 HT_ ?_
        refine puy_ 12 36 HT_ ?_
        refine puy_ 13 37 HT_ ?_
        refine puy_ 14 38 HT_ ?_
        refine puy_ 15 39 HT_ ?_
        refine puy_ 16 40 HT_ ?_
        refine pux_ 17 41 HT_ ?_
        refine pux_ 18 42 HT_ ?_
        refine puy_ 19 43 HT_ ?_
        refine puy_ 20 44 HT_ ?_
        refine puy_ 21 45 HT_ ?_
        refine puy_ 22 46 HT_ ?_
        refine puy_ 23 47 HT_ ?_
        refine pux_ 24 48 HT_ ?_
        refine done_ (done_of HT_.out (by kernel_rfl)) ?_
        try go_wp2
        go_ret
        exact er_
      ·rw [if_neg c7] at H
       have c7b0 : decide (x19_2 < (l1.length : Int)) = false := decide_eq_false c7
       clear c7
       obtain rfl := Option.some.inj H
       go_wp2
       go_ret
       exact er_

end Go.Proofs.YtgblginphicacaaGreatDoor.PFnExactCountByFlips
