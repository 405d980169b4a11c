-- WRITTEN BY A PROGRAM OF THIS WORK (wip/tools/ppatch.py) for this claim.
import Derived.Test.YtgblginphicacaaDoorPFnExactFarthestByFlipsx0
import Derived.Test.YtgblginphicacaaDoorPFnExactFarthestByFlipsx11
namespace Go.Proofs.YtgblginphicacaaDoor.PFnExactFarthestByFlips
open Go.RowKit Go.Proofs.YtgblginphicacaaDoorW.PrintWords Go.Proofs.YtgblginphicacaaDoorW.PrintLast Go.Proofs.YtgblginphicacaaDoorW.PrintMore
attribute [local go_sem] max2_int min2_int max_two min_two max_three min_three max_four min_four   -- for this text's walks alone
set_option linter.unusedVariables false
set_option linter.unusedSimpArgs false

/-! ### impl_allDiagonals: function 41 -/
mutual
def impl_allDiagonals.l0 : Nat → Int → List (S49) → Int → Int → Option ((List (S49)))
 | 0, _, _, _, _ => none
 | k + 1, x0, x3, x8, x9 => if x9 < x8 then (impl_allDiagonals.l1 k x0 x3 x9 (wrap64 (x9 + 1)) x8 x9) else (some x3)
def impl_allDiagonals.l1 : Nat → Int → List (S49) → Int → Int → Int → Int → Option ((List (S49)))
 | 0, _, _, _, _, _, _ => none
 | k + 1, x0, x3, x4, x5, x8, x9 => if x5 < x0 then ((impl_isDiagonal.f x0 x4 x5).bind fun t281 => (if t281 = true then (if x3.length < 8796093022208 then (impl_allDiagonals.l1 k x0 (x3 ++ [(⟨x4, x5⟩ : S49)]) x4 (wrap64 (x5 + 1)) x8 x9) else (none)) else (impl_allDiagonals.l1 k x0 x3 x4 (wrap64 (x5 + 1)) x8 x9))) else (impl_allDiagonals.l0 k x0 x3 x8 (wrap64 (x9 + 1)))
end
def impl_allDiagonals.f (k : Nat) (a0 : Int) : Option ((List (S49))) := impl_allDiagonals.l0 k a0 (([] : List (S49))) a0 0
theorem impl_allDiagonals.mono_l : ∀ k, (∀ y0 y1 y2 y3, LeO (impl_allDiagonals.l0 k y0 y1 y2 y3) (impl_allDiagonals.l0 (k + 1) y0 y1 y2 y3)) ∧ (∀ y0 y1 y2 y3 y4 y5, LeO (impl_allDiagonals.l1 k y0 y1 y2 y3 y4 y5) (impl_allDiagonals.l1 (k + 1) y0 y1 y2 y3 y4 y5))
 | 0 => ⟨fun _ _ _ _ r h => by simp [impl_allDiagonals.l0] at h, fun _ _ _ _ _ _ r h => by simp [impl_allDiagonals.l1] at h⟩
 | k + 1 => by
  obtain ⟨ih0, ih1⟩ := impl_allDiagonals.mono_l k
  refine ⟨?_, ?_⟩
  ·intro y0 y1 y2 y3
   unfold impl_allDiagonals.l0
   repeat' first
   | (with_reducible exact ih0 _ _ _ _)
   | (with_reducible exact ih1 _ _ _ _ _ _)
   | (with_reducible exact LeO.refl _)
   | (with_reducible exact LeO.none _)
   | (with_reducible refine LeO.ite ?_ ?_)
   | (with_reducible refine LeO.bind ?_ (fun _ => ?_))
   | exact ih0 _ _ _ _
   | exact ih1 _ _ _ _ _ _
   | exact LeO.none _
   | refine LeO.ite ?_ ?_
   | refine LeO.bind ?_ (fun _ => ?_)
  ·intro y0 y1 y2 y3 y4 y5
   unfold impl_allDiagonals.l1
   repeat' first
   | (with_reducible exact ih0 _ _ _ _)
   | (with_reducible exact ih1 _ _ _ _ _ _)
   | (with_reducible exact LeO.refl _)
   | (with_reducible exact LeO.none _)
   | (with_reducible refine LeO.ite ?_ ?_)
   | (with_reducible refine LeO.bind ?_ (fun _ => ?_))
   | exact ih0 _ _ _ _
   | exact ih1 _ _ _ _ _ _
   | exact LeO.none _
   | refine LeO.ite ?_ ?_
   | refine LeO.bind ?_ (fun _ => ?_)
theorem impl_allDiagonals.mono : ∀ a0 k, LeO (impl_allDiagonals.f k a0) (impl_allDiagonals.f (k + 1) a0) := by
 intro a0 k
 obtain ⟨ih0, ih1⟩ := impl_allDiagonals.mono_l k
 unfold impl_allDiagonals.f
 repeat' first
   | (with_reducible exact ih0 _ _ _ _)
   | (with_reducible exact ih1 _ _ _ _ _ _)
   | (with_reducible exact LeO.refl _)
   | (with_reducible exact LeO.none _)
   | (with_reducible refine LeO.ite ?_ ?_)
   | (with_reducible refine LeO.bind ?_ (fun _ => ?_))
   | exact ih0 _ _ _ _
   | exact ih1 _ _ _ _ _ _
   | exact LeO.none _
   | refine LeO.ite ?_ ?_
   | refine LeO.bind ?_ (fun _ => ?_)
set_option maxHeartbeats 8000000 in
set_option maxRecDepth 100000 in
theorem impl_allDiagonals.calls (k : Nat) (a0 : Int) (r : List (S49)) (w : World) (h : impl_allDiagonals.f k a0 = some r) :
  Calls Tryd.prog 41 #[.int .i64 a0] w fun e w' => ∃ v0_ : Value, e = .returned (v0_) ∧ Kd.R k49 49 w' w.heap.size (fun _ => True) v0_ r ∧ Below w.heap.size w w' := by
 have hu49 := Tryd.underlying49
 have HB := Aside0.mk (Below.refl w.heap.size w)
 have H : (impl_allDiagonals.l0 k a0 (([] : List (S49))) a0 0) = some r := h
 clear h
 obtain ⟨y277, hy277⟩ : ∃ y_ : List (S49), y_ = (([] : List (S49))) := ⟨_, rfl⟩
 replace H : (impl_allDiagonals.l0 k a0 y277 a0 0) = some r := hyy_ hy277 H
 have Ny277 := Aside0.mk hy277
 clear hy277
 have H' := Aside0.mk H
 clear H
 go_enter Tryd.func41, Tryd.ntmps41
 go_wp2_with (first | ((with_reducible refine gate_dst (N := 7) rfl ?_); refine Kd.R_lit k49 _ 49 ?hg (N := 7) ?hd (xs := ([] : List (S49))) (inner := []) (ok := fun _ => True) (okp := fun _ => True) ?hr ?hp (fun _ hk => hk) trivial (Below.refl _ _) (Nat.le_refl _) (by simp) ?_; (case hd => rfl); (case hg => rfl); (case hr => first | (go_simp; done) | (go_simp; rfl)); (case hp => exact (Reps.none _ _)); intro v278 w2 ho3 hb hg_ hnew_; clear hg_ hnew_; (first | rw [← Ny277.out] at ho3 | (simp only [Int.reduceToNat] at ho3; rw [← Ny277.out] at ho3)); have HO279 := Aside0.mk (Kd.R_lower ho3 (below_size blw_)); replace HB := Aside0.mk (below_step blw_ hb); clear hb ho3))
 go_loopg [3, 9] k (fun kq v3 v9 w' => ∃ (x3_1 : List (S49)) (x9_1 : Int), v9 = .int .i64 x9_1 ∧ Aside0 (impl_allDiagonals.l0 kq a0 x3_1 a0 x9_1 = some r) ∧ Aside0 (kq ≤ k) ∧ Aside0 (Kd.R k49 49 w' w.heap.size (fun _ => True) v3 x3_1) ∧ Aside0 (Below w.heap.size w w'))
 case atStart => exact ⟨(y277), (0), rsd_, H', ⟨Nat.le_refl _⟩, ⟨ra_ HO279.out⟩, ⟨blw_⟩⟩
 case round =>
  clear H'
  try clear p2
  try clear HO_3
  obtain ⟨x3_1, x9_1, rfl, HA, HK1, HO_3, HB⟩ := hrel
  cases gk with
  | zero => exact absurd HA.out (by simp [impl_allDiagonals.l0])
  | succ k1 =>
   have H := HA.out
   clear HA
   simp only [impl_allDiagonals.l0] at H
   by_cases c4 : x9_1 < a0
   ·rw [if_pos c4] at H
    have c4b0 : decide (x9_1 < a0) = true := decide_eq_true c4
    clear c4
    have H' := Aside0.mk H
    clear H
    go_wp2
    go_loopg [3, 5] k1 (fun kq v3 v5 w' => ∃ (x3_2 : List (S49)) (x5_2 : Int), v5 = .int .i64 x5_2 ∧ Aside0 (impl_allDiagonals.l1 kq a0 x3_2 x9_1 x5_2 a0 x9_1 = some r) ∧ Aside0 (kq ≤ k1) ∧ Aside0 (Kd.R k49 49 w' w.heap.size (fun _ => True) v3 x3_2) ∧ Aside0 (Below w.heap.size w w'))
    case atStart => exact ⟨(x3_1), (wrap64 (x9_1 + 1)), rsd_, H', ⟨Nat.le_refl _⟩, ⟨ra_ HO_3.out⟩, ⟨blw_⟩⟩
    case round =>
     clear H'
     try clear p2
     try clear c4
     try clear c4b0
     try clear p2
     try clear HO_3
     obtain ⟨x3_2, x5_2, rfl, HA, HK2, HO_3, HB⟩ := hrel
     cases gk with
     | zero => exact absurd HA.out (by simp [impl_allDiagonals.l1])
     | succ k2 =>
      have H := HA.out
      clear HA
      simp only [impl_allDiagonals.l1] at H
      by_cases c5 : x5_2 < a0
      ·rw [if_pos c5] at H
       have c5b0 : decide (x5_2 < a0) = true := decide_eq_true c5
       clear c5
       replace H := Option.bind_eq_some_iff.mp H
       obtain ⟨t281, A60, H⟩ := H
       replace H : (if t281 = true then (if x3_2.length < 8796093022208 then (impl_allDiagonals.l1 k2 a0 (x3_2 ++ [(⟨x9_1, x5_2⟩ : S49)]) x9_1 (wrap64 (x5_2 + 1)) a0 x9_1) else (none)) else (impl_allDiagonals.l1 k2 a0 x3_2 x9_1 (wrap64 (x5_2 + 1)) a0 x9_1)) = some r := H
       have A6 := Aside0.mk A60
       clear A60
       by_cases c7 : t281 = true
       ·subst c7
        replace H : (if x3_2.length < 8796093022208 then (impl_allDiagonals.l1 k2 a0 (x3_2 ++ [(⟨x9_1, x5_2⟩ : S49)]) x9_1 (wrap64 (x5_2 + 1)) a0 x9_1) else (none)) = some r := by rw [if_pos rfl] at H; exact H
        by_cases c8 : x3_2.length < 8796093022208
        case neg=>rw [if_neg c8] at H;exact absurd H (by simp)
        rw [if_pos c8] at H
        have LMc8 := Aside0.mk c8
        clear c8
        obtain ⟨y282, hy282⟩ : ∃ y_ : List (S49), y_ = (x3_2 ++ [(⟨x9_1, x5_2⟩ : S49)]) := ⟨_, rfl⟩
        replace H : (impl_allDiagonals.l1 k2 a0 y282 x9_1 (wrap64 (x5_2 + 1)) a0 x9_1) = some r := hyy_ hy282 H
        have Ny282 := Aside0.mk hy282
        clear hy282
        have H' := Aside0.mk H
        clear H
        go_wp2_with (first | ((with_reducible refine gate_dst (N := 6) rfl ?_); refine bxe_ 6 #[.int .i64 0, .int .i64 0] 49 ?_; intro gb280 hg w9 hbox hb; have BK280 := Aside0.mk (hbox); have GW280 := gz_ w hg; have GE280 := gz_ w hg; replace HO_3 := Aside0.mk (Kd.R_below (Kd.R_elderB (ra_ HO_3.out) gb280 (Nat.le_of_eq hg.symm)) hb); replace HB := Aside0.mk (below_step blw_ hb); clear hb hbox hg; have hcz10_0 := blc_ (.int .i64 0) BK280 0; have hcz10_1 := blc_ (.int .i64 0) BK280 1; have hfz10_0 := blk_frozen BK280.out 0; have hfz10_1 := blk_frozen BK280.out 1) | ((with_reducible refine gate_callee (f := 60) rfl ?_); refine goesL_ (some 24) rfl rfl Tryd.func60 (by kernel_rfl) rfl #[.int .i64 a0, .agg #[.int .i64 x9_1, .int .i64 x5_2]] rfl amp_ ?_; (with_reducible refine (impl_isDiagonal.calls a0 x9_1 x5_2 true _ A6.out).mono ?_); rintro e w11 ⟨rfl, hb⟩; refine ⟨_, rfl, ?_⟩; replace HO_3 := Aside0.mk (Kd.R_below (by (with_reducible repeat (first | apply Kd.R_alloc | apply Kd.R_drewN | apply Kd.R_drew)); exact (Kd.R_mono (Kd.R_far (p := ⟨gb280, 1, none⟩) (Kd.R_far (p := ⟨gb280, 0, none⟩) (Kd.R_mono HO_3.out (fun k_ hk => (⟨hk, hk.2⟩ : _ ∧ k_ ≠ gb280))) (fun _ hk => hk.2) (.int .i64 x9_1)) (fun _ hk => hk.2) (.int .i64 x5_2)) (fun _ h_ => h_.1))) hb); replace BK280 := Aside0.mk (blk_below (g := gb280) (o := .cells #[.int .i64 x9_1, .int .i64 x5_2] 49 (0, 0)) (by (with_reducible repeat (first | refine blk_drewN ?_ _ | refine blk_drew ?_ | refine blk_alloc ?_ _)); refine blk_put (cs := #[.int .i64 x9_1, .int .i64 0]) ?_ 1 _ rfl; (with_reducible repeat (first | refine blk_drewN ?_ _ | refine blk_drew ?_ | refine blk_alloc ?_ _)); refine blk_put (cs := #[.int .i64 0, .int .i64 0]) ?_ 0 _ rfl; (with_reducible repeat (first | refine blk_drewN ?_ _ | refine blk_drew ?_ | refine blk_alloc ?_ _)); exact BK280.out) hb); replace HB := Aside0.mk (below_step bls_ hb); (try clear hb); (try clear hb2); (try clear hk); (try clear hi); have hcz12_0 := blc_ (.int .i64 x9_1) BK280 0; have hcz12_1 := blc_ (.int .i64 x5_2) BK280 1; have hfz12_0 := blk_frozen BK280.out 0; have hfz12_1 := blk_frozen BK280.out 1) | ((with_reducible refine gate_builtin (b := .append) (xs := #[.tmp 25, .tmp 27]) rfl ?_); at_builtin; refine Kd.R_append k49 (w0 := w) w.heap.size rfl (.tmp 25) (.tmp 27) 28 49 (.agg #[(.int .i64 0), (.int .i64 0)]) 16 rfl Tryd.underlying28 info49 rfl (by decide) (by omega) u3 x3_2 (⟨x9_1, x5_2⟩ : S49) [.int .i64 x9_1, .int .i64 x5_2] (fun k_ => k_ ≠ gb280) (fun _ => False) rfl rfl ?aP (fun _ hk => hk.elim) ?aF ?aO ?aB ?aS ?aL ?_; (case aP => exact k49_mkM _ _ _ (⟨x9_1, x5_2⟩ : S49)); (case aB => exact bls_); (case aF => exact (fun k_ hk => Kd.freshB (g := gb280) (o := .cells #[.int .i64 x9_1, .int .i64 x5_2] 49 (0, 0)) (bk_ BK280.out) k_ hk)); (case aO => exact (by (with_reducible repeat (first | apply Kd.R_alloc | apply Kd.R_drewN | apply Kd.R_drew)); exact Kd.R_mono HO_3.out (fun _ hk => hk.2))); (case aS => exact (below_size bls_)); (case aL => have := LMc8.out; omega); intro v283 w13 ho hb hg hat; rw [← Ny282.out] at ho; have HO284 := Aside0.mk (ho); replace BK280 := Aside0.mk (blk_grown (g := gb280) (o := .cells #[.int .i64 x9_1, .int .i64 x5_2] 49 (0, 0)) (bk_ BK280.out) hg (Kd.R_away HO_3.out (fun _ hk => hk.2))); replace HB := Aside0.mk (hb); clear HO_3; clear ho hb hg hat))
        go_roundg k2
        case measure => have := HK1.out; have := HK2.out; omega
        case rel => exact ⟨(y282), (wrap64 (x5_2 + 1)), rsd_, H', ⟨by have := HK1.out; have := HK2.out; omega⟩, ⟨by (with_reducible repeat (first | apply Kd.R_alloc | apply Kd.R_drewN | apply Kd.R_drew)); exact Kd.R_mono HO284.out (fun _ hk => trivial)⟩, ⟨bls_⟩⟩
       ·replace c7 := Bool.eq_false_iff.mpr c7
        subst c7
        replace H : (impl_allDiagonals.l1 k2 a0 x3_2 x9_1 (wrap64 (x5_2 + 1)) a0 x9_1) = some r := by rw [if_neg (show ¬ (false = true) by decide)] at H; exact H
        have H' := Aside0.mk H
        clear H
        go_wp2_with (first | ((with_reducible refine gate_dst (N := 6) rfl ?_); refine bxe_ 6 #[.int .i64 0, .int .i64 0] 49 ?_; intro gb280 hg w14 hbox hb; have BK280 := Aside0.mk (hbox); have GW280 := gz_ w hg; have GE280 := gz_ w hg; replace HO_3 := Aside0.mk (Kd.R_below (Kd.R_elderB (ra_ HO_3.out) gb280 (Nat.le_of_eq hg.symm)) hb); replace HB := Aside0.mk (below_step blw_ hb); clear hb hbox hg; have hcz15_0 := blc_ (.int .i64 0) BK280 0; have hcz15_1 := blc_ (.int .i64 0) BK280 1; have hfz15_0 := blk_frozen BK280.out 0; have hfz15_1 := blk_frozen BK280.out 1) | ((with_reducible refine gate_callee (f := 60) rfl ?_); refine goesL_ (some 24) rfl rfl Tryd.func60 (by kernel_rfl) rfl #[.int .i64 a0, .agg #[.int .i64 x9_1, .int .i64 x5_2]] rfl amp_ ?_; (with_reducible refine (impl_isDiagonal.calls a0 x9_1 x5_2 false _ A6.out).mono ?_); rintro e w16 ⟨rfl, hb⟩; refine ⟨_, rfl, ?_⟩; replace HO_3 := Aside0.mk (Kd.R_below (by (with_reducible repeat (first | apply Kd.R_alloc | apply Kd.R_drewN | apply Kd.R_drew)); exact (Kd.R_mono (Kd.R_far (p := ⟨gb280, 1, none⟩) (Kd.R_far (p := ⟨gb280, 0, none⟩) (Kd.R_mono HO_3.out (fun k_ hk => (⟨hk, hk.2⟩ : _ ∧ k_ ≠ gb280))) (fun _ hk => hk.2) (.int .i64 x9_1)) (fun _ hk => hk.2) (.int .i64 x5_2)) (fun _ h_ => h_.1))) hb); replace BK280 := Aside0.mk (blk_below (g := gb280) (o := .cells #[.int .i64 x9_1, .int .i64 x5_2] 49 (0, 0)) (by (with_reducible repeat (first | refine blk_drewN ?_ _ | refine blk_drew ?_ | refine blk_alloc ?_ _)); refine blk_put (cs := #[.int .i64 x9_1, .int .i64 0]) ?_ 1 _ rfl; (with_reducible repeat (first | refine blk_drewN ?_ _ | refine blk_drew ?_ | refine blk_alloc ?_ _)); refine blk_put (cs := #[.int .i64 0, .int .i64 0]) ?_ 0 _ rfl; (with_reducible repeat (first | refine blk_drewN ?_ _ | refine blk_drew ?_ | refine blk_alloc ?_ _)); exact BK280.out) hb); replace HB := Aside0.mk (below_step bls_ hb); (try clear hb); (try clear hb2); (try clear hk); (try clear hi)))
        go_roundg k2
        case measure => have := HK1.out; have := HK2.out; omega
        case rel => exact ⟨(x3_2), (wrap64 (x5_2 + 1)), rsd_, H', ⟨by have := HK1.out; have := HK2.out; omega⟩, ⟨by (with_reducible repeat (first | apply Kd.R_alloc | apply Kd.R_drewN | apply Kd.R_drew)); exact Kd.R_mono HO_3.out (fun _ hk => trivial)⟩, ⟨bls_⟩⟩
      ·rw [if_neg c5] at H
       have c5b0 : decide (x5_2 < a0) = false := decide_eq_false c5
       clear c5
       have H' := Aside0.mk H
       clear H
       go_wp2
       go_roundg k2
       case measure => have := HK1.out; have := HK2.out; omega
       case rel => exact ⟨(x3_2), (wrap64 (x9_1 + 1)), rsd_, H', ⟨by have := HK1.out; have := HK2.out; omega⟩, ⟨ra_ HO_3.out⟩, ⟨blw_⟩⟩
   ·rw [if_neg c4] at H
    have c4b0 : decide (x9_1 < a0) = false := decide_eq_false c4
    clear c4
    obtain rfl := Option.some.inj H
    go_wp2
    go_ret
    exact ⟨_, by first | rfl | (simp [errW_none, errW_some] <;> rfl) | (simp [*, errW_none, errW_some] <;> rfl), by (with_reducible repeat (first | apply Kd.R_alloc | apply Kd.R_drewN | apply Kd.R_drew)); exact HO_3.out, blw_⟩

/-! ### impl_doCross: function 46 -/
def impl_doCross.f (a0_0 : Int) (a0_1 : Int) (a1_0 : Int) (a1_1 : Int) : Option (Bool) := if a0_0 < a1_0 then (if a1_0 < a0_1 then (if a0_1 < a1_1 then (some true) else (if a1_0 < a0_0 then (if a0_0 < a1_1 then (some (decide (a1_1 < a0_1))) else (some false)) else (some false))) else (if a1_0 < a0_0 then (if a0_0 < a1_1 then (some (decide (a1_1 < a0_1))) else (some false)) else (some false))) else (if a1_0 < a0_0 then (if a0_0 < a1_1 then (some (decide (a1_1 < a0_1))) else (some false)) else (some false))
set_option maxHeartbeats 8000000 in
set_option maxRecDepth 100000 in
theorem impl_doCross.calls (a0_0 : Int) (a0_1 : Int) (a1_0 : Int) (a1_1 : Int) (r : Bool) (w : World) (h : impl_doCross.f a0_0 a0_1 a1_0 a1_1 = some r) :
  Calls Tryd.prog 46 #[.agg #[.int .i64 a0_0, .int .i64 a0_1], .agg #[.int .i64 a1_0, .int .i64 a1_1]] w fun e w' => e = .returned (.bool r) ∧ Below w.heap.size w w' := by
 have hu49 := Tryd.underlying49
 have HB := Aside0.mk (Below.refl w.heap.size w)
 have H : (if a0_0 < a1_0 then (if a1_0 < a0_1 then (if a0_1 < a1_1 then (some true) else (if a1_0 < a0_0 then (if a0_0 < a1_1 then (some (decide (a1_1 < a0_1))) else (some false)) else (some false))) else (if a1_0 < a0_0 then (if a0_0 < a1_1 then (some (decide (a1_1 < a0_1))) else (some false)) else (some false))) else (if a1_0 < a0_0 then (if a0_0 < a1_1 then (some (decide (a1_1 < a0_1))) else (some false)) else (some false))) = some r := h
 clear h
 by_cases c3 : a0_0 < a1_0
 ·rw [if_pos c3] at H
  have c3b0 : decide (a0_0 < a1_0) = true := decide_eq_true c3
  clear c3
  by_cases c4 : a1_0 < a0_1
  ·rw [if_pos c4] at H
   have c4b0 : decide (a1_0 < a0_1) = true := decide_eq_true c4
   clear c4
   by_cases c5 : a0_1 < a1_1
   ·rw [if_pos c5] at H
    have c5b0 : decide (a0_1 < a1_1) = true := decide_eq_true c5
    clear c5
    obtain rfl := Option.some.inj H
    go_enter Tryd.func46, Tryd.ntmps46
    go_wp2_with (first | ((with_reducible refine gate_dst (N := 2) rfl ?_); refine bxe_ 2 #[.int .i64 a0_0, .int .i64 a0_1] 49 ?_; intro gb285 hg w6 hbox hb; have BK285 := Aside0.mk (hbox); have GW285 := gz_ w hg; have GE285 := gz_ w hg; replace HB := Aside0.mk (below_step blw_ hb); clear hb hbox hg) | ((with_reducible refine gate_dst (N := 3) rfl ?_); refine bxe_ 3 #[.int .i64 a1_0, .int .i64 a1_1] 49 ?_; intro gb286 hg w7 hbox hb; have BK286 := Aside0.mk (hbox); have GW286 := gz_ w hg; have GE286 := gz_ w hg; have NB285_286 := nb_ BK285 hg; have NB286_285 := nbr_ BK285 hg; replace BK285 := bb_ BK285 hb; replace HB := Aside0.mk (below_step bls_ hb); clear hb hbox hg; have hnb8 := NB285_286.out; have hnc8 := NB286_285.out; have hcz9_0 := blc_ (.int .i64 a0_0) BK285 0; have hcz9_1 := blc_ (.int .i64 a0_1) BK285 1; have hfz9_0 := blk_frozen BK285.out 0; have hfz9_1 := blk_frozen BK285.out 1; have hcz10_0 := blc_ (.int .i64 a1_0) BK286 0; have hcz10_1 := blc_ (.int .i64 a1_1) BK286 1; have hfz10_0 := blk_frozen BK286.out 0; have hfz10_1 := blk_frozen BK286.out 1))
    go_ret
    exact er_
   ·rw [if_neg c5] at H
    have c5b0 : decide (a0_1 < a1_1) = false := decide_eq_false c5
    clear c5
    by_cases c11 : a1_0 < a0_0
    ·rw [if_pos c11] at H
     have c11b0 : decide (a1_0 < a0_0) = true := decide_eq_true c11
     clear c11
     by_cases c12 : a0_0 < a1_1
     ·rw [if_pos c12] at H
      have c12b0 : decide (a0_0 < a1_1) = true := decide_eq_true c12
      clear c12
      obtain rfl := Option.some.inj H
      go_enter Tryd.func46, Tryd.ntmps46
      go_wp2_with (first | ((with_reducible refine gate_dst (N := 2) rfl ?_); refine bxe_ 2 #[.int .i64 a0_0, .int .i64 a0_1] 49 ?_; intro gb285 hg w13 hbox hb; have BK285 := Aside0.mk (hbox); have GW285 := gz_ w hg; have GE285 := gz_ w hg; replace HB := Aside0.mk (below_step blw_ hb); clear hb hbox hg) | ((with_reducible refine gate_dst (N := 3) rfl ?_); refine bxe_ 3 #[.int .i64 a1_0, .int .i64 a1_1] 49 ?_; intro gb286 hg w14 hbox hb; have BK286 := Aside0.mk (hbox); have GW286 := gz_ w hg; have GE286 := gz_ w hg; have NB285_286 := nb_ BK285 hg; have NB286_285 := nbr_ BK285 hg; replace BK285 := bb_ BK285 hb; replace HB := Aside0.mk (below_step bls_ hb); clear hb hbox hg; have hnb15 := NB285_286.out; have hnc15 := NB286_285.out; have hcz16_0 := blc_ (.int .i64 a0_0) BK285 0; have hcz16_1 := blc_ (.int .i64 a0_1) BK285 1; have hfz16_0 := blk_frozen BK285.out 0; have hfz16_1 := blk_frozen BK285.out 1; have hcz17_0 := blc_ (.int .i64 a1_0) BK286 0; have hcz17_1 := blc_ (.int .i64 a1_1) BK286 1; have hfz17_0 := blk_frozen BK286.out 0; have hfz17_1 := blk_frozen BK286.out 1))
      go_ret
      exact er_
     ·rw [if_neg c12] at H
      have c12b0 : decide (a0_0 < a1_1) = false := decide_eq_false c12
      clear c12
      obtain rfl := Option.some.inj H
      go_enter Tryd.func46, Tryd.ntmps46
      go_wp2_with (first | ((with_reducible refine gate_dst (N := 2) rfl ?_); refine bxe_ 2 #[.int .i64 a0_0, .int .i64 a0_1] 49 ?_; intro gb285 hg w18 hbox hb; have BK285 := Aside0.mk (hbox); have GW285 := gz_ w hg; have GE285 := gz_ w hg; replace HB := Aside0.mk (below_step blw_ hb); clear hb hbox hg) | ((with_reducible refine gate_dst (N := 3) rfl ?_); refine bxe_ 3 #[.int .i64 a1_0, .int .i64 a1_1] 49 ?_; intro gb286 hg w19 hbox hb; have BK286 := Aside0.mk (hbox); have GW286 := gz_ w hg; have GE286 := gz_ w hg; have NB285_286 := nb_ BK285 hg; have NB286_285 := nbr_ BK285 hg; replace BK285 := bb_ BK285 hb; replace HB := Aside0.mk (below_step bls_ hb); clear hb hbox hg; have hnb20 := NB285_286.out; have hnc20 := NB286_285.out; have hcz21_0 := blc_ (.int .i64 a0_0) BK285 0; have hcz21_1 := blc_ (.int .i64 a0_1) BK285 1; have hfz21_0 := blk_frozen BK285.out 0; have hfz21_1 := blk_frozen BK285.out 1; have hcz22_0 := blc_ (.int .i64 a1_0) BK286 0; have hcz22_1 := blc_ (.int .i64 a1_1) BK286 1; have hfz22_0 := blk_frozen BK286.out 0; have hfz22_1 := blk_frozen BK286.out 1))
      go_ret
      exact er_
    ·rw [if_neg c11] at H
     have c11b0 : decide (a1_0 < a0_0) = false := decide_eq_false c11
     clear c11
     obtain rfl := Option.some.inj H
     go_enter Tryd.func46, Tryd.ntmps46
     go_wp2_with (first | ((with_reducible refine gate_dst (N := 2) rfl ?_); refine bxe_ 2 #[.int .i64 a0_0, .int .i64 a0_1] 49 ?_; intro gb285 hg w23 hbox hb; have BK285 := Aside0.mk (hbox); have GW285 := gz_ w hg; have GE285 := gz_ w hg; replace HB := Aside0.mk (below_step blw_ hb); clear hb hbox hg) | ((with_reducible refine gate_dst (N := 3) rfl ?_); refine bxe_ 3 #[.int .i64 a1_0, .int .i64 a1_1] 49 ?_; intro gb286 hg w24 hbox hb; have BK286 := Aside0.mk (hbox); have GW286 := gz_ w hg; have GE286 := gz_ w hg; have NB285_286 := nb_ BK285 hg; have NB286_285 := nbr_ BK285 hg; replace BK285 := bb_ BK285 hb; replace HB := Aside0.mk (below_step bls_ hb); clear hb hbox hg; have hnb25 := NB285_286.out; have hnc25 := NB286_285.out; have hcz26_0 := blc_ (.int .i64 a0_0) BK285 0; have hcz26_1 := blc_ (.int .i64 a0_1) BK285 1; have hfz26_0 := blk_frozen BK285.out 0; have hfz26_1 := blk_frozen BK285.out 1; have hcz27_0 := blc_ (.int .i64 a1_0) BK286 0; have hcz27_1 := blc_ (.int .i64 a1_1) BK286 1; have hfz27_0 := blk_frozen BK286.out 0; have hfz27_1 := blk_frozen BK286.out 1))
     go_ret
     exact er_
  ·rw [if_neg c4] at H
   have c4b0 : decide (a1_0 < a0_1) = false := decide_eq_false c4
   clear c4
   by_cases c28 : a1_0 < a0_0
   ·rw [if_pos c28] at H
    have c28b0 : decide (a1_0 < a0_0) = true := decide_eq_true c28
    clear c28
    by_cases c29 : a0_0 < a1_1
    ·rw [if_pos c29] at H
     have c29b0 : decide (a0_0 < a1_1) = true := decide_eq_true c29
     clear c29
     obtain rfl := Option.some.inj H
     go_enter Tryd.func46, Tryd.ntmps46
     go_wp2_with (first | ((with_reducible refine gate_dst (N := 2) rfl ?_); refine bxe_ 2 #[.int .i64 a0_0, .int .i64 a0_1] 49 ?_; intro gb285 hg w30 hbox hb; have BK285 := Aside0.mk (hbox); have GW285 := gz_ w hg; have GE285 := gz_ w hg; replace HB := Aside0.mk (below_step blw_ hb); clear hb hbox hg) | ((with_reducible refine gate_dst (N := 3) rfl ?_); refine bxe_ 3 #[.int .i64 a1_0, .int .i64 a1_1] 49 ?_; intro gb286 hg w31 hbox hb; have BK286 := Aside0.mk (hbox); have GW286 := gz_ w hg; have GE286 := gz_ w hg; have NB285_286 := nb_ BK285 hg; have NB286_285 := nbr_ BK285 hg; replace BK285 := bb_ BK285 hb; replace HB := Aside0.mk (below_step bls_ hb); clear hb hbox hg; have hnb32 := NB285_286.out; have hnc32 := NB286_285.out; have hcz33_0 := blc_ (.int .i64 a0_0) BK285 0; have hcz33_1 := blc_ (.int .i64 a0_1) BK285 1; have hfz33_0 := blk_frozen BK285.out 0; have hfz33_1 := blk_frozen BK285.out 1; have hcz34_0 := blc_ (.int .i64 a1_0) BK286 0; have hcz34_1 := blc_ (.int .i64 a1_1) BK286 1; have hfz34_0 := blk_frozen BK286.out 0; have hfz34_1 := blk_frozen BK286.out 1))
     go_ret
     exact er_
    ·rw [if_neg c29] at H
     have c29b0 : decide (a0_0 < a1_1) = false := decide_eq_false c29
     clear c29
     obtain rfl := Option.some.inj H
     go_enter Tryd.func46, Tryd.ntmps46
     go_wp2_with (first | ((with_reducible refine gate_dst (N := 2) rfl ?_); refine bxe_ 2 #[.int .i64 a0_0, .int .i64 a0_1] 49 ?_; intro gb285 hg w35 hbox hb; have BK285 := Aside0.mk (hbox); have GW285 := gz_ w hg; have GE285 := gz_ w hg; replace HB := Aside0.mk (below_step blw_ hb); clear hb hbox hg) | ((with_reducible refine gate_dst (N := 3) rfl ?_); refine bxe_ 3 #[.int .i64 a1_0, .int .i64 a1_1] 49 ?_; intro gb286 hg w36 hbox hb; have BK286 := Aside0.mk (hbox); have GW286 := gz_ w hg; have GE286 := gz_ w hg; have NB285_286 := nb_ BK285 hg; have NB286_285 := nbr_ BK285 hg; replace BK285 := bb_ BK285 hb; replace HB := Aside0.mk (below_step bls_ hb); clear hb hbox hg; have hnb37 := NB285_286.out; have hnc37 := NB286_285.out; have hcz38_0 := blc_ (.int .i64 a0_0) BK285 0; have hcz38_1 := blc_ (.int .i64 a0_1) BK285 1; have hfz38_0 := blk_frozen BK285.out 0; have hfz38_1 := blk_frozen BK285.out 1; have hcz39_0 := blc_ (.int .i64 a1_0) BK286 0; have hcz39_1 := blc_ (.int .i64 a1_1) BK286 1; have hfz39_0 := blk_frozen BK286.out 0; have hfz39_1 := blk_frozen BK286.out 1))
     go_ret
     exact er_
   ·rw [if_neg c28] at H
    have c28b0 : decide (a1_0 < a0_0) = false := decide_eq_false c28
    clear c28
    obtain rfl := Option.some.inj H
    go_enter Tryd.func46, Tryd.ntmps46
    go_wp2_with (first | ((with_reducible refine gate_dst (N := 2) rfl ?_); refine bxe_ 2 #[.int .i64 a0_0, .int .i64 a0_1] 49 ?_; intro gb285 hg w40 hbox hb; have BK285 := Aside0.mk (hbox); have GW285 := gz_ w hg; have GE285 := gz_ w hg; replace HB := Aside0.mk (below_step blw_ hb); clear hb hbox hg) | ((with_reducible refine gate_dst (N := 3) rfl ?_); refine bxe_ 3 #[.int .i64 a1_0, .int .i64 a1_1] 49 ?_; intro gb286 hg w41 hbox hb; have BK286 := Aside0.mk (hbox); have GW286 := gz_ w hg; have GE286 := gz_ w hg; have NB285_286 := nb_ BK285 hg; have NB286_285 := nbr_ BK285 hg; replace BK285 := bb_ BK285 hb; replace HB := Aside0.mk (below_step bls_ hb); clear hb hbox hg; have hnb42 := NB285_286.out; have hnc42 := NB286_285.out; have hcz43_0 := blc_ (.int .i64 a0_0) BK285 0; have hcz43_1 := blc_ (.int .i64 a0_1) BK285 1; have hfz43_0 := blk_frozen BK285.out 0; have hfz43_1 := blk_frozen BK285.out 1; have hcz44_0 := blc_ (.int .i64 a1_0) BK286 0; have hcz44_1 := blc_ (.int .i64 a1_1) BK286 1; have hfz44_0 := blk_frozen BK286.out 0; have hfz44_1 := blk_frozen BK286.out 1))
    go_ret
    exact er_
 ·rw [if_neg c3] at H
  have c3b0 : decide (a0_0 < a1_0) = false := decide_eq_false c3
  clear c3
  by_cases c45 : a1_0 < a0_0
  ·rw [if_pos c45] at H
   have c45b0 : decide (a1_0 < a0_0) = true := decide_eq_true c45
   clear c45
   by_cases c46 : a0_0 < a1_1
   ·rw [if_pos c46] at H
    have c46b0 : decide (a0_0 < a1_1) = true := decide_eq_true c46
    clear c46
    obtain rfl := Option.some.inj H
    go_enter Tryd.func46, Tryd.ntmps46
    go_wp2_with (first | ((with_reducible refine gate_dst (N := 2) rfl ?_); refine bxe_ 2 #[.int .i64 a0_0, .int .i64 a0_1] 49 ?_; intro gb285 hg w47 hbox hb; have BK285 := Aside0.mk (hbox); have GW285 := gz_ w hg; have GE285 := gz_ w hg; replace HB := Aside0.mk (below_step blw_ hb); clear hb hbox hg) | ((with_reducible refine gate_dst (N := 3) rfl ?_); refine bxe_ 3 #[.int .i64 a1_0, .int .i64 a1_1] 49 ?_; intro gb286 hg w48 hbox hb; have BK286 := Aside0.mk (hbox); have GW286 := gz_ w hg; have GE286 := gz_ w hg; have NB285_286 := nb_ BK285 hg; have NB286_285 := nbr_ BK285 hg; replace BK285 := bb_ BK285 hb; replace HB := Aside0.mk (below_step bls_ hb); clear hb hbox hg; have hnb49 := NB285_286.out; have hnc49 := NB286_285.out; have hcz50_0 := blc_ (.int .i64 a0_0) BK285 0; have hcz50_1 := blc_ (.int .i64 a0_1) BK285 1; have hfz50_0 := blk_frozen BK285.out 0; have hfz50_1 := blk_frozen BK285.out 1; have hcz51_0 := blc_ (.int .i64 a1_0) BK286 0; have hcz51_1 := blc_ (.int .i64 a1_1) BK286 1; have hfz51_0 := blk_frozen BK286.out 0; have hfz51_1 := blk_frozen BK286.out 1))
    go_ret
    exact er_
   ·rw [if_neg c46] at H
    have c46b0 : decide (a0_0 < a1_1) = false := decide_eq_false c46
    clear c46
    obtain rfl := Option.some.inj H
    go_enter Tryd.func46, Tryd.ntmps46
    go_wp2_with (first | ((with_reducible refine gate_dst (N := 2) rfl ?_); refine bxe_ 2 #[.int .i64 a0_0, .int .i64 a0_1] 49 ?_; intro gb285 hg w52 hbox hb; have BK285 := Aside0.mk (hbox); have GW285 := gz_ w hg; have GE285 := gz_ w hg; replace HB := Aside0.mk (below_step blw_ hb); clear hb hbox hg) | ((with_reducible refine gate_dst (N := 3) rfl ?_); refine bxe_ 3 #[.int .i64 a1_0, .int .i64 a1_1] 49 ?_; intro gb286 hg w53 hbox hb; have BK286 := Aside0.mk (hbox); have GW286 := gz_ w hg; have GE286 := gz_ w hg; have NB285_286 := nb_ BK285 hg; have NB286_285 := nbr_ BK285 hg; replace BK285 := bb_ BK285 hb; replace HB := Aside0.mk (below_step bls_ hb); clear hb hbox hg; have hnb54 := NB285_286.out; have hnc54 := NB286_285.out; have hcz55_0 := blc_ (.int .i64 a0_0) BK285 0; have hcz55_1 := blc_ (.int .i64 a0_1) BK285 1; have hfz55_0 := blk_frozen BK285.out 0; have hfz55_1 := blk_frozen BK285.out 1; have hcz56_0 := blc_ (.int .i64 a1_0) BK286 0; have hcz56_1 := blc_ (.int .i64 a1_1) BK286 1; have hfz56_0 := blk_frozen BK286.out 0; have hfz56_1 := blk_frozen BK286.out 1))
    go_ret
    exact er_
  ·rw [if_neg c45] at H
   have c45b0 : decide (a1_0 < a0_0) = false := decide_eq_false c45
   clear c45
   obtain rfl := Option.some.inj H
   go_enter Tryd.func46, Tryd.ntmps46
   go_wp2_with (first | ((with_reducible refine gate_dst (N := 2) rfl ?_); refine bxe_ 2 #[.int .i64 a0_0, .int .i64 a0_1] 49 ?_; intro gb285 hg w57 hbox hb; have BK285 := Aside0.mk (hbox); have GW285 := gz_ w hg; have GE285 := gz_ w hg; replace HB := Aside0.mk (below_step blw_ hb); clear hb hbox hg) | ((with_reducible refine gate_dst (N := 3) rfl ?_); refine bxe_ 3 #[.int .i64 a1_0, .int .i64 a1_1] 49 ?_; intro gb286 hg w58 hbox hb; have BK286 := Aside0.mk (hbox); have GW286 := gz_ w hg; have GE286 := gz_ w hg; have NB285_286 := nb_ BK285 hg; have NB286_285 := nbr_ BK285 hg; replace BK285 := bb_ BK285 hb; replace HB := Aside0.mk (below_step bls_ hb); clear hb hbox hg; have hnb59 := NB285_286.out; have hnc59 := NB286_285.out; have hcz60_0 := blc_ (.int .i64 a0_0) BK285 0; have hcz60_1 := blc_ (.int .i64 a0_1) BK285 1; have hfz60_0 := blk_frozen BK285.out 0; have hfz60_1 := blk_frozen BK285.out 1; have hcz61_0 := blc_ (.int .i64 a1_0) BK286 0; have hcz61_1 := blc_ (.int .i64 a1_1) BK286 1; have hfz61_0 := blk_frozen BK286.out 0; have hfz61_1 := blk_frozen BK286.out 1))
   go_ret
   exact er_

/-! ### impl_Diagonal_43: function 43 -/
def impl_Diagonal_43.f (l0 : List S49) : Option (List S49) := if l0.length < 8796093022208 then some l0 else none
set_option maxHeartbeats 4000000 in
set_option maxRecDepth 100000 in
theorem impl_Diagonal_43.calls (A0 : Option Addr) (c0 : Nat) (l0 : List S49) (r : List S49) (w : World) (hr0 : Kd.C k49 w A0 l0.length l0) (hc0 : l0.length ≤ c0) (h : impl_Diagonal_43.f l0 = some r) :
  Calls Tryd.prog 43 #[.slice A0 l0.length c0] w fun e w' => ∃ v0_ : Value, e = .returned (v0_) ∧ Kd.R k49 49 w' w.heap.size (fun _ => True) v0_ r ∧ Below w.heap.size w w' := by
 have H : (if l0.length < 8796093022208 then some l0 else none) = some r := h
 clear h
 by_cases c2 : l0.length < 8796093022208
 ·rw [if_pos c2] at H
  obtain rfl := Option.some.inj H
  clear H
  rcases A0 with _ | ad
  ·have hl : l0 = [] := by
    rcases Nat.eq_zero_or_pos l0.length with h0 | h0
    ·exact List.eq_nil_of_length_eq_zero h0
    ·obtain ⟨ad, e, _⟩ := hr0.2.2 h0
     cases e
   subst hl
   have hcmp := fun w => Lib.run_eql_slice_nil (P := Tryd.prog) w 28 49 none 0 c0 0 0 Tryd.underlying28
   show Calls Tryd.prog 43 #[.slice none 0 c0] w _
   clear hr0 hc0
   go_enter Tryd.func43, Tryd.ntmps43
   go_wp2
   go_ret
   exact ⟨.slice none 0 0, rfl, Kd.R_nil _ _ _ _ _, Below.refl _ _⟩
  ·have HR0 := Aside0.mk hr0
   have LM := Aside0.mk c2
   have hcmp := fun w => Lib.run_eql_slice_nil (P := Tryd.prog) w 28 49 (some ad) l0.length c0 0 0 Tryd.underlying28
   have HB := Aside0.mk (Below.refl w.heap.size w)
   clear hr0 hc0 c2
   go_enter Tryd.func43, Tryd.ntmps43
   go_wp2_with (first | ((with_reducible refine gate_dst (N := 5) rfl ?_); refine Kd.R_lit k49 _ 49 ?hg (N := 5) ?hd (xs := ([] : List S49)) (inner := []) (ok := fun _ => True) (okp := fun _ => True) ?hr ?hp (fun _ hk => hk) trivial (Below.refl _ _) (Nat.le_refl _) (by simp) ?_; (case hd => rfl); (case hg => rfl); (case hr => first | (go_simp; done) | (go_simp; rfl)); (case hp => exact (Reps.none _ _)); intro v117 w3 ho4 hb hg_ hnew_; clear hg_ hnew_; have HO118 := Aside0.mk (Kd.R_lower ho4 (below_size blw_)); replace HB := Aside0.mk (below_step blw_ hb); clear hb ho4) | ((with_reducible refine gate_builtin (b := .append) (xs := #[.tmp 5, .tmp 6]) rfl ?_); at_builtin; refine Kd.R_append_rows k49 (w0 := w) w.heap.size rfl (.tmp 5) (.tmp 6) 28 49 (.agg #[(.int .i64 0), (.int .i64 0)]) 16 rfl Tryd.underlying28 info49 rfl (by decide) (by omega) v117 [] l0 _ _ _ (fun _ => True) (fun _ => False) rfl rfl ?aO ?aR (fun _ _ h => h) (fun _ h => h.elim) ?aF ?aB ?aS ?aL ?_; (case aR => repeat (first | exact (Kd.C_below HR0.out HB.out) | (with_reducible refine Kd.C_alloc ?_ _) | (with_reducible refine Kd.C_drewN ?_ _) | (with_reducible refine Kd.C_drew ?_))); (case aB => exact blw_); (case aF => exact (fun _ _ => trivial)); (case aO => exact (ra_ HO118.out)); (case aS => exact (below_size blw_)); (case aL => have := LM.out; simp only [List.length_nil]; omega); intro v120 w5 ho hb hg hat; rw [List.nil_append] at ho; have HO121 := Aside0.mk (ho); replace HB := Aside0.mk (hb); clear HO118; clear ho hb hg hat))
   go_ret
   exact ⟨_, rfl, by (with_reducible repeat (first | apply Kd.R_alloc | apply Kd.R_drewN | apply Kd.R_drew)); exact HO121.out, blw_⟩
 ·rw [if_neg c2] at H
  cases H


end Go.Proofs.YtgblginphicacaaDoor.PFnExactFarthestByFlips
