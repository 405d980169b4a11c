-- WRITTEN BY A PROGRAM OF THIS WORK (wip/tools/ppatch.py) for this claim.
import Derived.Test.YtgblginphicacaaGreatDoorPFnExactCountByFlipsx0
import Derived.Test.YtgblginphicacaaGreatDoorPFnExactCountByFlipsx11
import Derived.Test.YtgblginphicacaaGreatDoorPFnExactCountByFlipsx12
namespace Go.Proofs.YtgblginphicacaaGreatDoor.PFnExactCountByFlips
open Go.RowKit Go.Proofs.YtgblginphicacaaGreatDoorW.PrintWords Go.Proofs.YtgblginphicacaaGreatDoorW.PrintLast Go.Proofs.YtgblginphicacaaGreatDoorW.PrintMore
attribute [local go_sem] max2_int min2_int max_two min_two max_three min_three max_four min_four   -- for this text's walks alone
set_option linter.unusedVariables false
set_option linter.unusedSimpArgs false

/-! ### impl_isNear: function 16 -/
def impl_isNear.f (k : Nat) (a0 : Int) (l1 : List (S38)) : Option (Bool) := (impl_IsTriangulation.f k a0 l1).bind fun t299 => (if t299 = true then (some (decide (a0 ≤ 8))) else (some false))
theorem impl_isNear.mono : ∀ a0 a1 k, LeO (impl_isNear.f k a0 a1) (impl_isNear.f (k + 1) a0 a1) := by
 intro a0 a1 k
 unfold impl_isNear.f
 repeat' first
   | (with_reducible exact impl_IsTriangulation.mono _ _ _)
   | (with_reducible exact LeO.refl _)
   | (with_reducible exact LeO.none _)
   | (with_reducible refine LeO.ite ?_ ?_)
   | (with_reducible refine LeO.bind ?_ (fun _ => ?_))
   | exact impl_IsTriangulation.mono _ _ _
   | exact LeO.none _
   | refine LeO.ite ?_ ?_
   | refine LeO.bind ?_ (fun _ => ?_)
set_option maxHeartbeats 8000000 in
set_option maxRecDepth 100000 in
theorem impl_isNear.calls (k : Nat) (a0 : Int) (A1 : Option Addr) (c1 : Nat) (l1 : List (S38)) (r : Bool) (w : World) (hr1 : Kd.C k38 w A1 l1.length l1) (hc1 : l1.length ≤ c1) (h : impl_isNear.f k a0 l1 = some r) :
  Calls Tryz.prog 16 #[.int .i64 a0, .slice A1 l1.length c1] w fun e w' => e = .returned (.bool r) ∧ Below w.heap.size w w' := by
 have HR1 := Aside0.mk hr1
 have HC1 := Aside0.mk hc1
 clear hr1 hc1
 have HB := Aside0.mk (Below.refl w.heap.size w)
 have H : ((impl_IsTriangulation.f k a0 l1).bind fun t299 => (if t299 = true then (some (decide (a0 ≤ 8))) else (some false))) = some r := h
 clear h
 replace H := Option.bind_eq_some_iff.mp H
 obtain ⟨t299, A30, H⟩ := H
 replace H : (if t299 = true then (some (decide (a0 ≤ 8))) else (some false)) = some r := H
 have A3 := Aside0.mk A30
 clear A30
 by_cases c4 : t299 = true
 ·subst c4
  replace H : (some (decide (a0 ≤ 8))) = some r := by rw [if_pos rfl] at H; exact H
  obtain rfl := Option.some.inj H
  go_enter Tryz.func16, Tryz.ntmps16
  go_wp2_with (first | ((with_reducible refine gate_callee (f := 24) rfl ?_); refine goesL_ (some 7) rfl rfl Tryz.func24 (by kernel_rfl) rfl #[.int .i64 a0, .slice A1 l1.length c1] rfl amp_ ?_; (with_reducible refine (impl_IsTriangulation.calls k a0 _ _ l1 true _ ?side1 ?side2 A3.out).mono ?_); (case side1 => exact cd_ HR1.out); (case side2 => exact HC1.out); rintro e w5 ⟨rfl, hb⟩; refine ⟨_, rfl, ?_⟩; replace HB := Aside0.mk (below_step blw_ hb); (try clear hb); (try clear hb2); (try clear hk); (try clear hi)))
  go_ret
  exact er_
 ·replace c4 := Bool.eq_false_iff.mpr c4
  subst c4
  replace H : (some false) = some r := by rw [if_neg (show ¬ (false = true) by decide)] at H; exact H
  obtain rfl := Option.some.inj H
  go_enter Tryz.func16, Tryz.ntmps16
  go_wp2_with (first | ((with_reducible refine gate_callee (f := 24) rfl ?_); refine goesL_ (some 7) rfl rfl Tryz.func24 (by kernel_rfl) rfl #[.int .i64 a0, .slice A1 l1.length c1] rfl amp_ ?_; (with_reducible refine (impl_IsTriangulation.calls k a0 _ _ l1 false _ ?side1 ?side2 A3.out).mono ?_); (case side1 => exact cd_ HR1.out); (case side2 => exact HC1.out); rintro e w6 ⟨rfl, hb⟩; refine ⟨_, rfl, ?_⟩; replace HB := Aside0.mk (below_step blw_ hb); (try clear hb); (try clear hb2); (try clear hk); (try clear hi)))
  go_ret
  exact er_

/-! ### impl_allDiagonals: function 26 -/
mutual
def impl_allDiagonals.l0 : Nat → Int → List (S38) → Int → Int → Option ((List (S38)))
 | 0, _, _, _, _ => none
 | k + 1, x0, x3, x8, x9 => if x9 < x8 then (impl_allDiagonals.l1 k x0 x3 x9 (wrap64 (x9 + 1)) x8 x9) else (some x3)
def impl_allDiagonals.l1 : Nat → Int → List (S38) → Int → Int → Int → Int → Option ((List (S38)))
 | 0, _, _, _, _, _, _ => none
 | k + 1, x0, x3, x4, x5, x8, x9 => if x5 < x0 then ((impl_isDiagonal.f x0 x4 x5).bind fun t304 => (if t304 = true then (if x3.length < 8796093022208 then (impl_allDiagonals.l1 k x0 (x3 ++ [(⟨x4, x5⟩ : S38)]) x4 (wrap64 (x5 + 1)) x8 x9) else (none)) else (impl_allDiagonals.l1 k x0 x3 x4 (wrap64 (x5 + 1)) x8 x9))) else (impl_allDiagonals.l0 k x0 x3 x8 (wrap64 (x9 + 1)))
end
def impl_allDiagonals.f (k : Nat) (a0 : Int) : Option ((List (S38))) := impl_allDiagonals.l0 k a0 (([] : List (S38))) a0 0
theorem impl_allDiagonals.mono_l : ∀ k, (∀ y0 y1 y2 y3, LeO (impl_allDiagonals.l0 k y0 y1 y2 y3) (impl_allDiagonals.l0 (k + 1) y0 y1 y2 y3)) ∧ (∀ y0 y1 y2 y3 y4 y5, LeO (impl_allDiagonals.l1 k y0 y1 y2 y3 y4 y5) (impl_allDiagonals.l1 (k + 1) y0 y1 y2 y3 y4 y5))
 | 0 => ⟨fun _ _ _ _ r h => by simp [impl_allDiagonals.l0] at h, fun _ _ _ _ _ _ r h => by simp [impl_allDiagonals.l1] at h⟩
 | k + 1 => by
  obtain ⟨ih0, ih1⟩ := impl_allDiagonals.mono_l k
  refine ⟨?_, ?_⟩
  ·intro y0 y1 y2 y3
   unfold impl_allDiagonals.l0
   repeat' first
   | (with_reducible exact ih0 _ _ _ _)
   | (with_reducible exact ih1 _ _ _ _ _ _)
   | (with_reducible exact LeO.refl _)
   | (with_reducible exact LeO.none _)
   | (with_reducible refine LeO.ite ?_ ?_)
   | (with_reducible refine LeO.bind ?_ (fun _ => ?_))
   | exact ih0 _ _ _ _
   | exact ih1 _ _ _ _ _ _
   | exact LeO.none _
   | refine LeO.ite ?_ ?_
   | refine LeO.bind ?_ (fun _ => ?_)
  ·intro y0 y1 y2 y3 y4 y5
   unfold impl_allDiagonals.l1
   repeat' first
   | (with_reducible exact ih0 _ _ _ _)
   | (with_reducible exact ih1 _ _ _ _ _ _)
   | (with_reducible exact LeO.refl _)
   | (with_reducible exact LeO.none _)
   | (with_reducible refine LeO.ite ?_ ?_)
   | (with_reducible refine LeO.bind ?_ (fun _ => ?_))
   | exact ih0 _ _ _ _
   | exact ih1 _ _ _ _ _ _
   | exact LeO.none _
   | refine LeO.ite ?_ ?_
   | refine LeO.bind ?_ (fun _ => ?_)
theorem impl_allDiagonals.mono : ∀ a0 k, LeO (impl_allDiagonals.f k a0) (impl_allDiagonals.f (k + 1) a0) := by
 intro a0 k
 obtain ⟨ih0, ih1⟩ := impl_allDiagonals.mono_l k
 unfold impl_allDiagonals.f
 repeat' first
   | (with_reducible exact ih0 _ _ _ _)
   | (with_reducible exact ih1 _ _ _ _ _ _)
   | (with_reducible exact LeO.refl _)
   | (with_reducible exact LeO.none _)
   | (with_reducible refine LeO.ite ?_ ?_)
   | (with_reducible refine LeO.bind ?_ (fun _ => ?_))
   | exact ih0 _ _ _ _
   | exact ih1 _ _ _ _ _ _
   | exact LeO.none _
   | refine LeO.ite ?_ ?_
   | refine LeO.bind ?_ (fun _ => ?_)
set_option maxHeartbeats 8000000 in
set_option maxRecDepth 100000 in
theorem impl_allDiagonals.calls (k : Nat) (a0 : Int) (r : List (S38)) (w : World) (h : impl_allDiagonals.f k a0 = some r) :
  Calls Tryz.prog 26 #[.int .i64 a0] w fun e w' => ∃ v0_ : Value, e = .returned (v0_) ∧ Kd.R k38 38 w' w.heap.size (fun _ => True) v0_ r ∧ Below w.heap.size w w' := by
 have hu38 := Tryz.underlying38
 have HB := Aside0.mk (Below.refl w.heap.size w)
 have H : (impl_allDiagonals.l0 k a0 (([] : List (S38))) a0 0) = some r := h
 clear h
 obtain ⟨y300, hy300⟩ : ∃ y_ : List (S38), y_ = (([] : List (S38))) := ⟨_, rfl⟩
 replace H : (impl_allDiagonals.l0 k a0 y300 a0 0) = some r := hyy_ hy300 H
 have Ny300 := Aside0.mk hy300
 clear hy300
 have H' := Aside0.mk H
 clear H
 go_enter Tryz.func26, Tryz.ntmps26
 go_wp2_with (first | ((with_reducible refine gate_dst (N := 7) rfl ?_); refine Kd.R_lit k38 _ 38 ?hg (N := 7) ?hd (xs := ([] : List (S38))) (inner := []) (ok := fun _ => True) (okp := fun _ => True) ?hr ?hp (fun _ hk => hk) trivial (Below.refl _ _) (Nat.le_refl _) (by simp) ?_; (case hd => rfl); (case hg => rfl); (case hr => first | (go_simp; done) | (go_simp; rfl)); (case hp => exact (Reps.none _ _)); intro v301 w2 ho3 hb hg_ hnew_; clear hg_ hnew_; (first | rw [← Ny300.out] at ho3 | (simp only [Int.reduceToNat] at ho3; rw [← Ny300.out] at ho3)); have HO302 := Aside0.mk (Kd.R_lower ho3 (below_size blw_)); replace HB := Aside0.mk (below_step blw_ hb); clear hb ho3))
 go_loopg [3, 9] k (fun kq v3 v9 w' => ∃ (x3_1 : List (S38)) (x9_1 : Int), v9 = .int .i64 x9_1 ∧ Aside0 (impl_allDiagonals.l0 kq a0 x3_1 a0 x9_1 = some r) ∧ Aside0 (kq ≤ k) ∧ Aside0 (Kd.R k38 38 w' w.heap.size (fun _ => True) v3 x3_1) ∧ Aside0 (Below w.heap.size w w'))
 case atStart => exact ⟨(y300), (0), rsd_, H', ⟨Nat.le_refl _⟩, ⟨ra_ HO302.out⟩, ⟨blw_⟩⟩
 case round =>
  clear H'
  try clear c2
  try clear p2
  try clear HO_3
  obtain ⟨x3_1, x9_1, rfl, HA, HK1, HO_3, HB⟩ := hrel
  cases gk with
  | zero => exact absurd HA.out (by simp [impl_allDiagonals.l0])
  | succ k1 =>
   have H := HA.out
   clear HA
   simp only [impl_allDiagonals.l0] at H
   by_cases c4 : x9_1 < a0
   ·rw [if_pos c4] at H
    have c4b0 : decide (x9_1 < a0) = true := decide_eq_true c4
    clear c4
    have H' := Aside0.mk H
    clear H
    go_wp2
    go_loopg [3, 5] k1 (fun kq v3 v5 w' => ∃ (x3_2 : List (S38)) (x5_2 : Int), v5 = .int .i64 x5_2 ∧ Aside0 (impl_allDiagonals.l1 kq a0 x3_2 x9_1 x5_2 a0 x9_1 = some r) ∧ Aside0 (kq ≤ k1) ∧ Aside0 (Kd.R k38 38 w' w.heap.size (fun _ => True) v3 x3_2) ∧ Aside0 (Below w.heap.size w w'))
    case atStart => exact ⟨(x3_1), (wrap64 (x9_1 + 1)), rsd_, H', ⟨Nat.le_refl _⟩, ⟨ra_ HO_3.out⟩, ⟨blw_⟩⟩
    case round =>
     clear H'
     try clear c2
     try clear p2
     try clear c4
     try clear c4b0
     try clear p2
     try clear HO_3
     obtain ⟨x3_2, x5_2, rfl, HA, HK2, HO_3, HB⟩ := hrel
     cases gk with
     | zero => exact absurd HA.out (by simp [impl_allDiagonals.l1])
     | succ k2 =>
      have H := HA.out
      clear HA
      simp only [impl_allDiagonals.l1] at H
      by_cases c5 : x5_2 < a0
      ·rw [if_pos c5] at H
       have c5b0 : decide (x5_2 < a0) = true := decide_eq_true c5
       clear c5
       replace H := Option.bind_eq_some_iff.mp H
       obtain ⟨t304, A60, H⟩ := H
       replace H : (if t304 = true then (if x3_2.length < 8796093022208 then (impl_allDiagonals.l1 k2 a0 (x3_2 ++ [(⟨x9_1, x5_2⟩ : S38)]) x9_1 (wrap64 (x5_2 + 1)) a0 x9_1) else (none)) else (impl_allDiagonals.l1 k2 a0 x3_2 x9_1 (wrap64 (x5_2 + 1)) a0 x9_1)) = some r := H
       have A6 := Aside0.mk A60
       clear A60
       by_cases c7 : t304 = true
       ·subst c7
        replace H : (if x3_2.length < 8796093022208 then (impl_allDiagonals.l1 k2 a0 (x3_2 ++ [(⟨x9_1, x5_2⟩ : S38)]) x9_1 (wrap64 (x5_2 + 1)) a0 x9_1) else (none)) = some r := by rw [if_pos rfl] at H; exact H
        by_cases c8 : x3_2.length < 8796093022208
        case neg=>rw [if_neg c8] at H;exact absurd H (by simp)
        rw [if_pos c8] at H
        have LMc8 := Aside0.mk c8
        clear c8
        obtain ⟨y305, hy305⟩ : ∃ y_ : List (S38), y_ = (x3_2 ++ [(⟨x9_1, x5_2⟩ : S38)]) := ⟨_, rfl⟩
        replace H : (impl_allDiagonals.l1 k2 a0 y305 x9_1 (wrap64 (x5_2 + 1)) a0 x9_1) = some r := hyy_ hy305 H
        have Ny305 := Aside0.mk hy305
        clear hy305
        have H' := Aside0.mk H
        clear H
        go_wp2_with (first | ((with_reducible refine gate_dst (N := 6) rfl ?_); refine bxe_ 6 #[.int .i64 0, .int .i64 0] 38 ?_; intro gb303 hg w9 hbox hb; have BK303 := Aside0.mk (hbox); have GW303 := gz_ w hg; have GE303 := gz_ w hg; replace HO_3 := Aside0.mk (Kd.R_below (Kd.R_elderB (ra_ HO_3.out) gb303 (Nat.le_of_eq hg.symm)) hb); replace HB := Aside0.mk (below_step blw_ hb); clear hb hbox hg; have hcz10_0 := blc_ (.int .i64 0) BK303 0; have hcz10_1 := blc_ (.int .i64 0) BK303 1; have hfz10_0 := blk_frozen BK303.out 0; have hfz10_1 := blk_frozen BK303.out 1) | ((with_reducible refine gate_callee (f := 42) rfl ?_); refine goesL_ (some 24) rfl rfl Tryz.func42 (by kernel_rfl) rfl #[.int .i64 a0, .agg #[.int .i64 x9_1, .int .i64 x5_2]] rfl amp_ ?_; (with_reducible refine (impl_isDiagonal.calls a0 x9_1 x5_2 true _ A6.out).mono ?_); rintro e w11 ⟨rfl, hb⟩; refine ⟨_, rfl, ?_⟩; replace HO_3 := Aside0.mk (Kd.R_below (by (with_reducible repeat (first | apply Kd.R_alloc | apply Kd.R_drewN | apply Kd.R_drew)); exact (Kd.R_mono (Kd.R_far (p := ⟨gb303, 1, none⟩) (Kd.R_far (p := ⟨gb303, 0, none⟩) (Kd.R_mono HO_3.out (fun k_ hk => (⟨hk, hk.2⟩ : _ ∧ k_ ≠ gb303))) (fun _ hk => hk.2) (.int .i64 x9_1)) (fun _ hk => hk.2) (.int .i64 x5_2)) (fun _ h_ => h_.1))) hb); replace BK303 := Aside0.mk (blk_below (g := gb303) (o := .cells #[.int .i64 x9_1, .int .i64 x5_2] 38 (0, 0)) (by (with_reducible repeat (first | refine blk_drewN ?_ _ | refine blk_drew ?_ | refine blk_alloc ?_ _)); refine blk_put (cs := #[.int .i64 x9_1, .int .i64 0]) ?_ 1 _ rfl; (with_reducible repeat (first | refine blk_drewN ?_ _ | refine blk_drew ?_ | refine blk_alloc ?_ _)); refine blk_put (cs := #[.int .i64 0, .int .i64 0]) ?_ 0 _ rfl; (with_reducible repeat (first | refine blk_drewN ?_ _ | refine blk_drew ?_ | refine blk_alloc ?_ _)); exact BK303.out) hb); replace HB := Aside0.mk (below_step bls_ hb); (try clear hb); (try clear hb2); (try clear hk); (try clear hi); have hcz12_0 := blc_ (.int .i64 x9_1) BK303 0; have hcz12_1 := blc_ (.int .i64 x5_2) BK303 1; have hfz12_0 := blk_frozen BK303.out 0; have hfz12_1 := blk_frozen BK303.out 1) | ((with_reducible refine gate_builtin (b := .append) (xs := #[.tmp 25, .tmp 27]) rfl ?_); at_builtin; refine Kd.R_append k38 (w0 := w) w.heap.size rfl (.tmp 25) (.tmp 27) 27 38 (.agg #[(.int .i64 0), (.int .i64 0)]) 16 rfl Tryz.underlying27 info38 rfl (by decide) (by omega) u3 x3_2 (⟨x9_1, x5_2⟩ : S38) [.int .i64 x9_1, .int .i64 x5_2] (fun k_ => k_ ≠ gb303) (fun _ => False) rfl rfl ?aP (fun _ hk => hk.elim) ?aF ?aO ?aB ?aS ?aL ?_; (case aP => exact k38_mkM _ _ _ (⟨x9_1, x5_2⟩ : S38)); (case aB => exact bls_); (case aF => exact (fun k_ hk => Kd.freshB (g := gb303) (o := .cells #[.int .i64 x9_1, .int .i64 x5_2] 38 (0, 0)) (bk_ BK303.out) k_ hk)); (case aO => exact (by (with_reducible repeat (first | apply Kd.R_alloc | apply Kd.R_drewN | apply Kd.R_drew)); exact Kd.R_mono HO_3.out (fun _ hk => hk.2))); (case aS => exact (below_size bls_)); (case aL => have := LMc8.out; omega); intro v306 w13 ho hb hg hat; rw [← Ny305.out] at ho; have HO307 := Aside0.mk (ho); replace BK303 := Aside0.mk (blk_grown (g := gb303) (o := .cells #[.int .i64 x9_1, .int .i64 x5_2] 38 (0, 0)) (bk_ BK303.out) hg (Kd.R_away HO_3.out (fun _ hk => hk.2))); replace HB := Aside0.mk (hb); clear HO_3; clear ho hb hg hat))
        go_roundg k2
        case measure => have := HK1.out; have := HK2.out; omega
        case rel => exact ⟨(y305), (wrap64 (x5_2 + 1)), rsd_, H', ⟨by have := HK1.out; have := HK2.out; omega⟩, ⟨by (with_reducible repeat (first | apply Kd.R_alloc | apply Kd.R_drewN | apply Kd.R_drew)); exact Kd.R_mono HO307.out (fun _ hk => trivial)⟩, ⟨bls_⟩⟩
       ·replace c7 := Bool.eq_false_iff.mpr c7
        subst c7
        replace H : (impl_allDiagonals.l1 k2 a0 x3_2 x9_1 (wrap64 (x5_2 + 1)) a0 x9_1) = some r := by rw [if_neg (show ¬ (false = true) by decide)] at H; exact H
        have H' := Aside0.mk H
        clear H
        go_wp2_with (first | ((with_reducible refine gate_dst (N := 6) rfl ?_); refine bxe_ 6 #[.int .i64 0, .int .i64 0] 38 ?_; intro gb303 hg w14 hbox hb; have BK303 := Aside0.mk (hbox); have GW303 := gz_ w hg; have GE303 := gz_ w hg; replace HO_3 := Aside0.mk (Kd.R_below (Kd.R_elderB (ra_ HO_3.out) gb303 (Nat.le_of_eq hg.symm)) hb); replace HB := Aside0.mk (below_step blw_ hb); clear hb hbox hg; have hcz15_0 := blc_ (.int .i64 0) BK303 0; have hcz15_1 := blc_ (.int .i64 0) BK303 1; have hfz15_0 := blk_frozen BK303.out 0; have hfz15_1 := blk_frozen BK303.out 1) | ((with_reducible refine gate_callee (f := 42) rfl ?_); refine goesL_ (some 24) rfl rfl Tryz.func42 (by kernel_rfl) rfl #[.int .i64 a0, .agg #[.int .i64 x9_1, .int .i64 x5_2]] rfl amp_ ?_; (with_reducible refine (impl_isDiagonal.calls a0 x9_1 x5_2 false _ A6.out).mono ?_); rintro e w16 ⟨rfl, hb⟩; refine ⟨_, rfl, ?_⟩; replace HO_3 := Aside0.mk (Kd.R_below (by (with_reducible repeat (first | apply Kd.R_alloc | apply Kd.R_drewN | apply Kd.R_drew)); exact (Kd.R_mono (Kd.R_far (p := ⟨gb303, 1, none⟩) (Kd.R_far (p := ⟨gb303, 0, none⟩) (Kd.R_mono HO_3.out (fun k_ hk => (⟨hk, hk.2⟩ : _ ∧ k_ ≠ gb303))) (fun _ hk => hk.2) (.int .i64 x9_1)) (fun _ hk => hk.2) (.int .i64 x5_2)) (fun _ h_ => h_.1))) hb); replace BK303 := Aside0.mk (blk_below (g := gb303) (o := .cells #[.int .i64 x9_1, .int .i64 x5_2] 38 (0, 0)) (by (with_reducible repeat (first | refine blk_drewN ?_ _ | refine blk_drew ?_ | refine blk_alloc ?_ _)); refine blk_put (cs := #[.int .i64 x9_1, .int .i64 0]) ?_ 1 _ rfl; (with_reducible repeat (first | refine blk_drewN ?_ _ | refine blk_drew ?_ | refine blk_alloc ?_ _)); refine blk_put (cs := #[.int .i64 0, .int .i64 0]) ?_ 0 _ rfl; (with_reducible repeat (first | refine blk_drewN ?_ _ | refine blk_drew ?_ | refine blk_alloc ?_ _)); exact BK303.out) hb); replace HB := Aside0.mk (below_step bls_ hb); (try clear hb); (try clear hb2); (try clear hk); (try clear hi)))
        go_roundg k2
        case measure => have := HK1.out; have := HK2.out; omega
        case rel => exact ⟨(x3_2), (wrap64 (x5_2 + 1)), rsd_, H', ⟨by have := HK1.out; have := HK2.out; omega⟩, ⟨by (with_reducible repeat (first | apply Kd.R_alloc | apply Kd.R_drewN | apply Kd.R_drew)); exact Kd.R_mono HO_3.out (fun _ hk => trivial)⟩, ⟨bls_⟩⟩
      ·rw [if_neg c5] at H
       have c5b0 : decide (x5_2 < a0) = false := decide_eq_false c5
       clear c5
       have H' := Aside0.mk H
       clear H
       go_wp2
       go_roundg k2
       case measure => have := HK1.out; have := HK2.out; omega
       case rel => exact ⟨(x3_2), (wrap64 (x9_1 + 1)), rsd_, H', ⟨by have := HK1.out; have := HK2.out; omega⟩, ⟨ra_ HO_3.out⟩, ⟨blw_⟩⟩
   ·rw [if_neg c4] at H
    have c4b0 : decide (x9_1 < a0) = false := decide_eq_false c4
    clear c4
    obtain rfl := Option.some.inj H
    go_wp2
    go_ret
    exact ⟨_, by first | rfl | (simp [errW_none, errW_some] <;> rfl) | (simp [*, errW_none, errW_some] <;> rfl), by (with_reducible repeat (first | apply Kd.R_alloc | apply Kd.R_drewN | apply Kd.R_drew)); exact HO_3.out, blw_⟩

/-! ### impl_Diagonal_28: function 28 -/
def impl_Diagonal_28.f (l0 : List S38) : Option (List S38) := if l0.length < 8796093022208 then some l0 else none
set_option maxHeartbeats 4000000 in
set_option maxRecDepth 100000 in
theorem impl_Diagonal_28.calls (A0 : Option Addr) (c0 : Nat) (l0 : List S38) (r : List S38) (w : World) (hr0 : Kd.C k38 w A0 l0.length l0) (hc0 : l0.length ≤ c0) (h : impl_Diagonal_28.f l0 = some r) :
  Calls Tryz.prog 28 #[.slice A0 l0.length c0] w fun e w' => ∃ v0_ : Value, e = .returned (v0_) ∧ Kd.R k38 38 w' w.heap.size (fun _ => True) v0_ r ∧ Below w.heap.size w w' := by
 have H : (if l0.length < 8796093022208 then some l0 else none) = some r := h
 clear h
 by_cases c2 : l0.length < 8796093022208
 ·rw [if_pos c2] at H
  obtain rfl := Option.some.inj H
  clear H
  rcases A0 with _ | ad
  ·have hl : l0 = [] := by
    rcases Nat.eq_zero_or_pos l0.length with h0 | h0
    ·exact List.eq_nil_of_length_eq_zero h0
    ·obtain ⟨ad, e, _⟩ := hr0.2.2 h0
     cases e
   subst hl
   have hcmp := fun w => Lib.run_eql_slice_nil (P := Tryz.prog) w 27 38 none 0 c0 0 0 Tryz.underlying27
   show Calls Tryz.prog 28 #[.slice none 0 c0] w _
   clear hr0 hc0
   go_enter Tryz.func28, Tryz.ntmps28
   go_wp2
   go_ret
   exact ⟨.slice none 0 0, rfl, Kd.R_nil _ _ _ _ _, Below.refl _ _⟩
  ·have HR0 := Aside0.mk hr0
   have LM := Aside0.mk c2
   have hcmp := fun w => Lib.run_eql_slice_nil (P := Tryz.prog) w 27 38 (some ad) l0.length c0 0 0 Tryz.underlying27
   have HB := Aside0.mk (Below.refl w.heap.size w)
   clear hr0 hc0 c2
   go_enter Tryz.func28, Tryz.ntmps28
   go_wp2_with (first | ((with_reducible refine gate_dst (N := 5) rfl ?_); refine Kd.R_lit k38 _ 38 ?hg (N := 5) ?hd (xs := ([] : List S38)) (inner := []) (ok := fun _ => True) (okp := fun _ => True) ?hr ?hp (fun _ hk => hk) trivial (Below.refl _ _) (Nat.le_refl _) (by simp) ?_; (case hd => rfl); (case hg => rfl); (case hr => first | (go_simp; done) | (go_simp; rfl)); (case hp => exact (Reps.none _ _)); intro v117 w3 ho4 hb hg_ hnew_; clear hg_ hnew_; have HO118 := Aside0.mk (Kd.R_lower ho4 (below_size blw_)); replace HB := Aside0.mk (below_step blw_ hb); clear hb ho4) | ((with_reducible refine gate_builtin (b := .append) (xs := #[.tmp 5, .tmp 6]) rfl ?_); at_builtin; refine Kd.R_append_rows k38 (w0 := w) w.heap.size rfl (.tmp 5) (.tmp 6) 27 38 (.agg #[(.int .i64 0), (.int .i64 0)]) 16 rfl Tryz.underlying27 info38 rfl (by decide) (by omega) v117 [] l0 _ _ _ (fun _ => True) (fun _ => False) rfl rfl ?aO ?aR (fun _ _ h => h) (fun _ h => h.elim) ?aF ?aB ?aS ?aL ?_; (case aR => repeat (first | exact (Kd.C_below HR0.out HB.out) | (with_reducible refine Kd.C_alloc ?_ _) | (with_reducible refine Kd.C_drewN ?_ _) | (with_reducible refine Kd.C_drew ?_))); (case aB => exact blw_); (case aF => exact (fun _ _ => trivial)); (case aO => exact (ra_ HO118.out)); (case aS => exact (below_size blw_)); (case aL => have := LM.out; simp only [List.length_nil]; omega); intro v120 w5 ho hb hg hat; rw [List.nil_append] at ho; have HO121 := Aside0.mk (ho); replace HB := Aside0.mk (hb); clear HO118; clear ho hb hg hat))
   go_ret
   exact ⟨_, rfl, by (with_reducible repeat (first | apply Kd.R_alloc | apply Kd.R_drewN | apply Kd.R_drew)); exact HO121.out, blw_⟩
 ·rw [if_neg c2] at H
  cases H


end Go.Proofs.YtgblginphicacaaGreatDoor.PFnExactCountByFlips
