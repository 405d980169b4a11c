-- WRITTEN BY A PROGRAM OF THIS WORK (wip/tools/ppatch.py) for this claim.
import Derived.Test.YtgblginphicacaaGreatDoorPFnExactCountByFlipsx0
import Derived.Test.YtgblginphicacaaGreatDoorPFnExactCountByFlipsx1
namespace Go.Proofs.YtgblginphicacaaGreatDoor.PFnExactCountByFlips
open Go.RowKit Go.Proofs.YtgblginphicacaaGreatDoorW.PrintWords Go.Proofs.YtgblginphicacaaGreatDoorW.PrintLast Go.Proofs.YtgblginphicacaaGreatDoorW.PrintMore
attribute [local go_sem] max2_int min2_int max_two min_two max_three min_three max_four min_four   -- for this text's walks alone
set_option linter.unusedVariables false
set_option linter.unusedSimpArgs false

attribute [local go_sem high] eqA38
/-! ### impl_Diagonal_46: function 46 -/
def impl_Diagonal_46.l0 : Nat → List (S38) → Int → Int → Int → Int → Option (Int)
 | 0, _, _, _, _, _ => none
 | k + 1, x0, x7, x8, x309000, x309001 => if x8 < x7 then (if 0 ≤ x8 then (if x8 < (x0.length : Int) then (if (x309000 == ((rd_T38 x0 x8).f0) && (x309001 == ((rd_T38 x0 x8).f1))) = true then (some x8) else (impl_Diagonal_46.l0 k x0 x7 (wrap64 (x8 + 1)) x309000 x309001)) else (none)) else (none)) else (some (-1))
def impl_Diagonal_46.f (k : Nat) (l0 : List (S38)) (a1_0 : Int) (a1_1 : Int) : Option (Int) := impl_Diagonal_46.l0 k l0 (l0.length : Int) 0 a1_0 a1_1
theorem impl_Diagonal_46.mono_l : ∀ k, (∀ y0 y1 y2 y3 y4, LeO (impl_Diagonal_46.l0 k y0 y1 y2 y3 y4) (impl_Diagonal_46.l0 (k + 1) y0 y1 y2 y3 y4))
 | 0 => fun _ _ _ _ _ r h => by simp [impl_Diagonal_46.l0] at h
 | k + 1 => by
  have ih0 := impl_Diagonal_46.mono_l k
  ·intro y0 y1 y2 y3 y4
   unfold impl_Diagonal_46.l0
   repeat' first
   | (with_reducible exact ih0 _ _ _ _ _)
   | (with_reducible exact LeO.refl _)
   | (with_reducible exact LeO.none _)
   | (with_reducible refine LeO.ite ?_ ?_)
   | (with_reducible refine LeO.bind ?_ (fun _ => ?_))
   | exact ih0 _ _ _ _ _
   | exact LeO.none _
   | refine LeO.ite ?_ ?_
   | refine LeO.bind ?_ (fun _ => ?_)
theorem impl_Diagonal_46.mono : ∀ a0 a1 a2 k, LeO (impl_Diagonal_46.f k a0 a1 a2) (impl_Diagonal_46.f (k + 1) a0 a1 a2) := by
 intro a0 a1 a2 k
 have ih0 := impl_Diagonal_46.mono_l k
 unfold impl_Diagonal_46.f
 repeat' first
   | (with_reducible exact ih0 _ _ _ _ _)
   | (with_reducible exact LeO.refl _)
   | (with_reducible exact LeO.none _)
   | (with_reducible refine LeO.ite ?_ ?_)
   | (with_reducible refine LeO.bind ?_ (fun _ => ?_))
   | exact ih0 _ _ _ _ _
   | exact LeO.none _
   | refine LeO.ite ?_ ?_
   | refine LeO.bind ?_ (fun _ => ?_)
set_option maxHeartbeats 8000000 in
set_option maxRecDepth 100000 in
theorem impl_Diagonal_46.calls (k : Nat) (A0 : Option Addr) (c0 : Nat) (l0 : List (S38)) (a1_0 : Int) (a1_1 : Int) (r : Int) (w : World) (hr0 : Kd.C k38 w A0 l0.length l0) (hc0 : l0.length ≤ c0) (h : impl_Diagonal_46.f k l0 a1_0 a1_1 = some r) :
  Calls Tryz.prog 46 #[.slice A0 l0.length c0, .agg #[.int .i64 a1_0, .int .i64 a1_1]] w fun e w' => e = .returned (.int .i64 r) ∧ Below w.heap.size w w' := by
 have hu38 := Tryz.underlying38
 have HR0 := Aside0.mk hr0
 have HC0 := Aside0.mk hc0
 clear hr0 hc0
 have HB := Aside0.mk (Below.refl w.heap.size w)
 have H : (impl_Diagonal_46.l0 k l0 (l0.length : Int) 0 a1_0 a1_1) = some r := h
 clear h
 have H' := Aside0.mk H
 clear H
 go_enter Tryz.func46, Tryz.ntmps46
 go_wp2_with (first | ((with_reducible refine gate_dst (N := 3) rfl ?_); refine bxe_ 3 #[.int .i64 a1_0, .int .i64 a1_1] 38 ?_; intro gb308 hg w3 hbox hb; have BK308 := Aside0.mk (hbox); have GW308 := gz_ w hg; have GE308 := gz_ w hg; replace HB := Aside0.mk (below_step blw_ hb); clear hb hbox hg))
 repeat (go_quiet (first | ((with_reducible refine gate_dst (N := 3) rfl ?_); refine bxe_ 3 #[.int .i64 a1_0, .int .i64 a1_1] 38 ?_; intro gb308 hg w3 hbox hb; have BK308 := Aside0.mk (hbox); have GW308 := gz_ w hg; have GE308 := gz_ w hg; replace HB := Aside0.mk (below_step blw_ hb); clear hb hbox hg)); try go_wp2_with (first | ((with_reducible refine gate_dst (N := 3) rfl ?_); refine bxe_ 3 #[.int .i64 a1_0, .int .i64 a1_1] 38 ?_; intro gb308 hg w3 hbox hb; have BK308 := Aside0.mk (hbox); have GW308 := gz_ w hg; have GE308 := gz_ w hg; replace HB := Aside0.mk (below_step blw_ hb); clear hb hbox hg)))
 go_loopg [8] k (fun kq v8 w' => ∃ (x8_1 : Int), v8 = .int .i64 x8_1 ∧ Aside0 (impl_Diagonal_46.l0 kq l0 (l0.length : Int) x8_1 a1_0 a1_1 = some r) ∧ Aside0 (kq ≤ k) ∧ Aside0 (w'.heap[gb308]? = some (.cells #[.int .i64 a1_0, .int .i64 a1_1] 38 (0, 0))) ∧ Aside0 (Below w.heap.size w w'))
 case atStart => exact ⟨(0), rsd_, H', ⟨Nat.le_refl _⟩, ⟨bk_ BK308.out⟩, ⟨bls_⟩⟩
 case round =>
  clear H'
  try clear p2
  obtain ⟨x8_1, rfl, HA, HK1, BK308, HB⟩ := hrel
  cases gk with
  | zero => exact absurd HA.out (by simp [impl_Diagonal_46.l0])
  | succ k1 =>
   have H := HA.out
   clear HA
   simp only [impl_Diagonal_46.l0] at H
   by_cases c4 : x8_1 < (l0.length : Int)
   ·rw [if_pos c4] at H
    have c4b0 : decide (x8_1 < (l0.length : Int)) = true := decide_eq_true c4
    clear c4
    by_cases c5 : 0 ≤ x8_1
    case neg=>rw [if_neg c5] at H;exact absurd H (by simp)
    rw [if_pos c5] at H
    have c5b0 : decide (0 ≤ x8_1) = true := decide_eq_true c5
    clear c5
    by_cases c6 : x8_1 < (l0.length : Int)
    case neg=>rw [if_neg c6] at H;exact absurd H (by simp)
    rw [if_pos c6] at H
    have c6b0 : decide (x8_1 < (l0.length : Int)) = true := decide_eq_true c6
    clear c6
    by_cases c7 : (a1_0 == ((rd_T38 l0 x8_1).f0) && (a1_1 == ((rd_T38 l0 x8_1).f1))) = true
    ·rw [if_pos c7] at H
     have c7b0 : (a1_0 == ((rd_T38 l0 x8_1).f0) && (a1_1 == ((rd_T38 l0 x8_1).f1))) = true := c7
     (try (have c7b1 : decide (a1_0 = ((rd_T38 l0 x8_1).f0) && (a1_1 == ((rd_T38 l0 x8_1).f1))) = true := by simpa using c7))
     (try (have c7b2 : (a1_0 == ((rd_T38 l0 x8_1).f0) && (a1_1 == ((rd_T38 l0 x8_1).f1))) = true := by simpa using c7))
     clear c7
     obtain rfl := Option.some.inj H
     have hcz8_0 := blc_ (.int .i64 a1_0) BK308 0
     have hcz8_1 := blc_ (.int .i64 a1_1) BK308 1
     have hfz8_0 := blk_frozen BK308.out 0
     have hfz8_1 := blk_frozen BK308.out 1
     have p309 : 0 ≤ (x8_1 : Int) := odt_
     have q309 : x8_1 < (l0.length : Int) := odt_
     obtain ⟨ad309, e309, hx309_0, hx309_1⟩ := at_T38 HR0.out x8_1 p309 q309
     cases e309
     (first | replace hx309_0 := (HB.out.cell (World.block_lt_of_cell? w _ hx309_0)).trans hx309_0 | skip)
     (first | replace hx309_1 := (HB.out.cell (World.block_lt_of_cell? w _ hx309_1)).trans hx309_1 | skip)
     replace p309 := eq_true p309
     replace q309 := eq_true q309
     go_wp2
     repeat (go_quiet (fail); try go_wp2)
     go_ret
     exact er_
    ·rw [if_neg c7] at H
     have c7b0 : (a1_0 == ((rd_T38 l0 x8_1).f0) && (a1_1 == ((rd_T38 l0 x8_1).f1))) = false := by simpa using c7
     (try (have c7b1 : decide (a1_0 = ((rd_T38 l0 x8_1).f0) && (a1_1 == ((rd_T38 l0 x8_1).f1))) = false := by simpa using c7))
     (try (have c7b2 : (a1_0 == ((rd_T38 l0 x8_1).f0) && (a1_1 == ((rd_T38 l0 x8_1).f1))) = false := by simpa using c7))
     (try (have c7b3 : ¬ (a1_0 = ((rd_T38 l0 x8_1).f0) && (a1_1 == ((rd_T38 l0 x8_1).f1))) := by simpa using c7))
     clear c7
     have H' := Aside0.mk H
     clear H
     have hcz9_0 := blc_ (.int .i64 a1_0) BK308 0
     have hcz9_1 := blc_ (.int .i64 a1_1) BK308 1
     have hfz9_0 := blk_frozen BK308.out 0
     have hfz9_1 := blk_frozen BK308.out 1
     have p309 : 0 ≤ (x8_1 : Int) := odt_
     have q309 : x8_1 < (l0.length : Int) := odt_
     obtain ⟨ad309, e309, hx309_0, hx309_1⟩ := at_T38 HR0.out x8_1 p309 q309
     cases e309
     (first | replace hx309_0 := (HB.out.cell (World.block_lt_of_cell? w _ hx309_0)).trans hx309_0 | skip)
     (first | replace hx309_1 := (HB.out.cell (World.block_lt_of_cell? w _ hx309_1)).trans hx309_1 | skip)
     replace p309 := eq_true p309
     replace q309 := eq_true q309
     go_wp2
     repeat (go_quiet (fail); try go_wp2)
     go_roundg k1
     case measure => have := HK1.out; omega
     case rel => exact ⟨(wrap64 (x8_1 + 1)), rsd_, H', ⟨by have := HK1.out; omega⟩, ⟨bk_ BK308.out⟩, ⟨bls_⟩⟩
   ·rw [if_neg c4] at H
    have c4b0 : decide (x8_1 < (l0.length : Int)) = false := decide_eq_false c4
    clear c4
    obtain rfl := Option.some.inj H
    go_wp2
    repeat (go_quiet (fail); try go_wp2)
    go_ret
    exact er_

/-! ### impl_Diagonal_90: function 90 -/
def impl_Diagonal_90.f (k : Nat) (l0 : List (S38)) (a1_0 : Int) (a1_1 : Int) : Option (Bool) := (impl_Diagonal_46.f k l0 a1_0 a1_1).bind fun t311 => (some (decide (t311 ≥ 0)))
theorem impl_Diagonal_90.mono : ∀ a0 a1 a2 k, LeO (impl_Diagonal_90.f k a0 a1 a2) (impl_Diagonal_90.f (k + 1) a0 a1 a2) := by
 intro a0 a1 a2 k
 unfold impl_Diagonal_90.f
 repeat' first
   | (with_reducible exact impl_Diagonal_46.mono _ _ _ _)
   | (with_reducible exact LeO.refl _)
   | (with_reducible exact LeO.none _)
   | (with_reducible refine LeO.ite ?_ ?_)
   | (with_reducible refine LeO.bind ?_ (fun _ => ?_))
   | exact impl_Diagonal_46.mono _ _ _ _
   | exact LeO.none _
   | refine LeO.ite ?_ ?_
   | refine LeO.bind ?_ (fun _ => ?_)
set_option maxHeartbeats 8000000 in
set_option maxRecDepth 100000 in
theorem impl_Diagonal_90.calls (k : Nat) (A0 : Option Addr) (c0 : Nat) (l0 : List (S38)) (a1_0 : Int) (a1_1 : Int) (r : Bool) (w : World) (hr0 : Kd.C k38 w A0 l0.length l0) (hc0 : l0.length ≤ c0) (h : impl_Diagonal_90.f k l0 a1_0 a1_1 = some r) :
  Calls Tryz.prog 90 #[.slice A0 l0.length c0, .agg #[.int .i64 a1_0, .int .i64 a1_1]] w fun e w' => e = .returned (.bool r) ∧ Below w.heap.size w w' := by
 have hu38 := Tryz.underlying38
 have HR0 := Aside0.mk hr0
 have HC0 := Aside0.mk hc0
 clear hr0 hc0
 have HB := Aside0.mk (Below.refl w.heap.size w)
 have H : ((impl_Diagonal_46.f k l0 a1_0 a1_1).bind fun t311 => (some (decide (t311 ≥ 0)))) = some r := h
 clear h
 replace H := Option.bind_eq_some_iff.mp H
 obtain ⟨t311, A30, H⟩ := H
 replace H : (some (decide (t311 ≥ 0))) = some r := H
 have A3 := Aside0.mk A30
 clear A30
 obtain rfl := Option.some.inj H
 go_enter Tryz.func90, Tryz.ntmps90
 go_wp2_with (first | ((with_reducible refine gate_dst (N := 3) rfl ?_); refine bxe_ 3 #[.int .i64 a1_0, .int .i64 a1_1] 38 ?_; intro gb310 hg w4 hbox hb; have BK310 := Aside0.mk (hbox); have GW310 := gz_ w hg; have GE310 := gz_ w hg; replace HB := Aside0.mk (below_step blw_ hb); clear hb hbox hg; have hcz5_0 := blc_ (.int .i64 a1_0) BK310 0; have hcz5_1 := blc_ (.int .i64 a1_1) BK310 1; have hfz5_0 := blk_frozen BK310.out 0; have hfz5_1 := blk_frozen BK310.out 1) | ((with_reducible refine gate_callee (f := 46) rfl ?_); refine goesL_ (some 7) rfl rfl Tryz.func46 (by kernel_rfl) rfl #[.slice A0 l0.length c0, .agg #[.int .i64 a1_0, .int .i64 a1_1]] rfl amp_ ?_; (with_reducible refine (impl_Diagonal_46.calls k _ _ l0 a1_0 a1_1 t311 _ ?side1 ?side2 A3.out).mono ?_); (case side1 => exact cd_ (Kd.C_below HR0.out HB.out)); (case side2 => exact HC0.out); rintro e w6 ⟨rfl, hb⟩; refine ⟨_, rfl, ?_⟩; replace BK310 := bb_ BK310 hb; replace HB := Aside0.mk (below_step bls_ hb); (try clear hb); (try clear hb2); (try clear hk); (try clear hi)))
 go_ret
 exact er_

/-! ### impl_isSide: function 69 -/
def impl_isSide.f (k : Nat) (a0 : Int) (l1 : List (S38)) (a2 : Int) (a3 : Int) : Option (Bool) := if (mx a2 a3) = (wrap64 ((mn a2 a3) + 1)) then (some true) else (if (mn a2 a3) = 0 then (if (mx a2 a3) = (wrap64 (a0 - 1)) then (some true) else ((impl_Diagonal_90.f k l1 (mn a2 a3) (mx a2 a3)).bind fun t312 => (some t312))) else ((impl_Diagonal_90.f k l1 (mn a2 a3) (mx a2 a3)).bind fun t313 => (some t313)))
theorem impl_isSide.mono : ∀ a0 a1 a2 a3 k, LeO (impl_isSide.f k a0 a1 a2 a3) (impl_isSide.f (k + 1) a0 a1 a2 a3) := by
 intro a0 a1 a2 a3 k
 unfold impl_isSide.f
 repeat' first
   | (with_reducible exact impl_Diagonal_90.mono _ _ _ _)
   | (with_reducible exact LeO.refl _)
   | (with_reducible exact LeO.none _)
   | (with_reducible refine LeO.ite ?_ ?_)
   | (with_reducible refine LeO.bind ?_ (fun _ => ?_))
   | exact impl_Diagonal_90.mono _ _ _ _
   | exact LeO.none _
   | refine LeO.ite ?_ ?_
   | refine LeO.bind ?_ (fun _ => ?_)
set_option maxHeartbeats 8000000 in
set_option maxRecDepth 100000 in
theorem impl_isSide.calls (k : Nat) (a0 : Int) (A1 : Option Addr) (c1 : Nat) (l1 : List (S38)) (a2 : Int) (a3 : Int) (r : Bool) (w : World) (hr1 : Kd.C k38 w A1 l1.length l1) (hc1 : l1.length ≤ c1) (h : impl_isSide.f k a0 l1 a2 a3 = some r) :
  Calls Tryz.prog 69 #[.int .i64 a0, .slice A1 l1.length c1, .int .i64 a2, .int .i64 a3] w fun e w' => e = .returned (.bool r) ∧ Below w.heap.size w w' := by
 have hu38 := Tryz.underlying38
 have HR1 := Aside0.mk hr1
 have HC1 := Aside0.mk hc1
 clear hr1 hc1
 have HB := Aside0.mk (Below.refl w.heap.size w)
 have H : (if (mx a2 a3) = (wrap64 ((mn a2 a3) + 1)) then (some true) else (if (mn a2 a3) = 0 then (if (mx a2 a3) = (wrap64 (a0 - 1)) then (some true) else ((impl_Diagonal_90.f k l1 (mn a2 a3) (mx a2 a3)).bind fun t312 => (some t312))) else ((impl_Diagonal_90.f k l1 (mn a2 a3) (mx a2 a3)).bind fun t313 => (some t313)))) = some r := h
 clear h
 obtain ⟨ji5, hji5⟩ : ∃ j_ : Int, (mn a2 a3) = j_ := ⟨_, rfl⟩
 replace H : (if (mx a2 a3) = (wrap64 ((ji5) + 1)) then (some true) else (if (ji5) = 0 then (if (mx a2 a3) = (wrap64 (a0 - 1)) then (some true) else ((impl_Diagonal_90.f k l1 (ji5) (mx a2 a3)).bind fun t312 => (some t312))) else ((impl_Diagonal_90.f k l1 (ji5) (mx a2 a3)).bind fun t313 => (some t313)))) = some r := by first | (rw [hji5] at H; exact H) | (simp only [hji5] at H ⊢; exact H)
 have hji5_ : (if a3 < a2 then a3 else a2) = ji5 := hji5
 obtain ⟨ji6, hji6⟩ : ∃ j_ : Int, (mx a2 a3) = j_ := ⟨_, rfl⟩
 replace H : (if (ji6) = (wrap64 ((ji5) + 1)) then (some true) else (if (ji5) = 0 then (if (ji6) = (wrap64 (a0 - 1)) then (some true) else ((impl_Diagonal_90.f k l1 (ji5) (ji6)).bind fun t312 => (some t312))) else ((impl_Diagonal_90.f k l1 (ji5) (ji6)).bind fun t313 => (some t313)))) = some r := by first | (rw [hji6] at H; exact H) | (simp only [hji6] at H ⊢; exact H)
 have hji6_ : (if a2 < a3 then a3 else a2) = ji6 := hji6
 by_cases c7 : (ji6) = (wrap64 ((ji5) + 1))
 ·rw [if_pos c7] at H
  have c7b0 : ((ji6) == (wrap64 ((ji5) + 1))) = true := beq_iff_eq.mpr c7
  have c7b1 : ((ji6) != (wrap64 ((ji5) + 1))) = false := bne_eq_false_iff_eq.mpr c7
  clear c7
  obtain rfl := Option.some.inj H
  go_enter Tryz.func69, Tryz.ntmps69
  go_wp2
  go_ret
  exact ⟨by first | rfl | (simp [errW_none, errW_some] <;> rfl) | (simp only [← hji5, ← hji6]; first | rfl | (simp [errW_none, errW_some] <;> rfl)) | (simp [*, errW_none, errW_some] <;> rfl), blw_⟩
 ·rw [if_neg c7] at H
  have c7b0 : ((ji6) == (wrap64 ((ji5) + 1))) = false := beq_eq_false_iff_ne.mpr c7
  have c7b1 : ((ji6) != (wrap64 ((ji5) + 1))) = true := bne_iff_ne.mpr c7
  by_cases c8 : (ji5) = 0
  ·rw [if_pos c8] at H
   have c8b0 : ((ji5) == 0) = true := beq_iff_eq.mpr c8
   have c8b1 : ((ji5) != 0) = false := bne_eq_false_iff_eq.mpr c8
   clear c8
   by_cases c9 : (ji6) = (wrap64 (a0 - 1))
   ·rw [if_pos c9] at H
    have c9b0 : ((ji6) == (wrap64 (a0 - 1))) = true := beq_iff_eq.mpr c9
    have c9b1 : ((ji6) != (wrap64 (a0 - 1))) = false := bne_eq_false_iff_eq.mpr c9
    clear c9
    obtain rfl := Option.some.inj H
    go_enter Tryz.func69, Tryz.ntmps69
    go_wp2
    go_ret
    exact ⟨by first | rfl | (simp [errW_none, errW_some] <;> rfl) | (simp only [← hji5, ← hji6]; first | rfl | (simp [errW_none, errW_some] <;> rfl)) | (simp [*, errW_none, errW_some] <;> rfl), blw_⟩
   ·rw [if_neg c9] at H
    have c9b0 : ((ji6) == (wrap64 (a0 - 1))) = false := beq_eq_false_iff_ne.mpr c9
    have c9b1 : ((ji6) != (wrap64 (a0 - 1))) = true := bne_iff_ne.mpr c9
    replace H := Option.bind_eq_some_iff.mp H
    obtain ⟨t312, A100, H⟩ := H
    replace H : (some t312) = some r := H
    have A10 := Aside0.mk A100
    clear A100
    obtain rfl := Option.some.inj H
    go_enter Tryz.func69, Tryz.ntmps69
    go_wp2_with (first | (go_at_call 90; (with_reducible refine (impl_Diagonal_90.calls k _ _ l1 ji5 ji6 t312 _ ?side1 ?side2 A10.out).mono ?_); (case side1 => exact cd_ HR1.out); (case side2 => exact HC1.out); rintro e w11 ⟨rfl, hb⟩; replace HB := Aside0.mk (below_step blw_ hb); (try clear hb); (try clear hb2); (try clear hk); (try clear hi)))
    go_ret
    exact ⟨by first | rfl | (simp [errW_none, errW_some] <;> rfl) | (simp only [← hji5, ← hji6]; first | rfl | (simp [errW_none, errW_some] <;> rfl)) | (simp [*, errW_none, errW_some] <;> rfl), blw_⟩
  ·rw [if_neg c8] at H
   have c8b0 : ((ji5) == 0) = false := beq_eq_false_iff_ne.mpr c8
   have c8b1 : ((ji5) != 0) = true := bne_iff_ne.mpr c8
   replace H := Option.bind_eq_some_iff.mp H
   obtain ⟨t313, A120, H⟩ := H
   replace H : (some t313) = some r := H
   have A12 := Aside0.mk A120
   clear A120
   obtain rfl := Option.some.inj H
   go_enter Tryz.func69, Tryz.ntmps69
   go_wp2_with (first | (go_at_call 90; (with_reducible refine (impl_Diagonal_90.calls k _ _ l1 ji5 ji6 t313 _ ?side1 ?side2 A12.out).mono ?_); (case side1 => exact cd_ HR1.out); (case side2 => exact HC1.out); rintro e w13 ⟨rfl, hb⟩; replace HB := Aside0.mk (below_step blw_ hb); (try clear hb); (try clear hb2); (try clear hk); (try clear hi)))
   go_ret
   exact ⟨by first | rfl | (simp [errW_none, errW_some] <;> rfl) | (simp only [← hji5, ← hji6]; first | rfl | (simp [errW_none, errW_some] <;> rfl)) | (simp [*, errW_none, errW_some] <;> rfl), blw_⟩

/-! ### impl_triangles: function 59 -/
mutual
def impl_triangles.l0 : Nat → Int → List (S38) → List (List Int) → Int → Int → Option ((List (List Int)))
 | 0, _, _, _, _, _ => none
 | k + 1, x0, x1, x5, x10, x11 => if x11 < x10 then (impl_triangles.l1 k x0 x1 x5 x11 (wrap64 (x11 + 1)) x10 x11) else (some x5)
def impl_triangles.l1 : Nat → Int → List (S38) → List (List Int) → Int → Int → Int → Int → Option ((List (List Int)))
 | 0, _, _, _, _, _, _, _ => none
 | k + 1, x0, x1, x5, x6, x7, x10, x11 => if x7 < x0 then (impl_triangles.l2 k x0 x1 x5 x6 x7 (wrap64 (x7 + 1)) x10 x11) else (impl_triangles.l0 k x0 x1 x5 x10 (wrap64 (x11 + 1)))
def impl_triangles.l2 : Nat → Int → List (S38) → List (List Int) → Int → Int → Int → Int → Int → Option ((List (List Int)))
 | 0, _, _, _, _, _, _, _, _ => none
 | k + 1, x0, x1, x5, x6, x7, x8, x10, x11 => if x8 < x0 then ((impl_isSide.f k x0 x1 x6 x7).bind fun t317 => (if t317 = true then ((impl_isSide.f k x0 x1 x7 x8).bind fun t318 => (if t318 = true then ((impl_isSide.f k x0 x1 x6 x8).bind fun t319 => (if t319 = true then (if x5.length < 5864062014805 then (impl_triangles.l2 k x0 x1 (x5 ++ [(([x6, x7, x8] : List Int))]) x6 x7 (wrap64 (x8 + 1)) x10 x11) else (none)) else (impl_triangles.l2 k x0 x1 x5 x6 x7 (wrap64 (x8 + 1)) x10 x11))) else (impl_triangles.l2 k x0 x1 x5 x6 x7 (wrap64 (x8 + 1)) x10 x11))) else (impl_triangles.l2 k x0 x1 x5 x6 x7 (wrap64 (x8 + 1)) x10 x11))) else (impl_triangles.l1 k x0 x1 x5 x6 (wrap64 (x7 + 1)) x10 x11)
end
def impl_triangles.f (k : Nat) (a0 : Int) (l1 : List (S38)) : Option ((List (List Int))) := impl_triangles.l0 k a0 l1 (([] : List (List Int))) a0 0
theorem impl_triangles.mono_l : ∀ k, (∀ y0 y1 y2 y3 y4, LeO (impl_triangles.l0 k y0 y1 y2 y3 y4) (impl_triangles.l0 (k + 1) y0 y1 y2 y3 y4)) ∧ (∀ y0 y1 y2 y3 y4 y5 y6, LeO (impl_triangles.l1 k y0 y1 y2 y3 y4 y5 y6) (impl_triangles.l1 (k + 1) y0 y1 y2 y3 y4 y5 y6)) ∧ (∀ y0 y1 y2 y3 y4 y5 y6 y7, LeO (impl_triangles.l2 k y0 y1 y2 y3 y4 y5 y6 y7) (impl_triangles.l2 (k + 1) y0 y1 y2 y3 y4 y5 y6 y7))
 | 0 => ⟨fun _ _ _ _ _ r h => by simp [impl_triangles.l0] at h, fun _ _ _ _ _ _ _ r h => by simp [impl_triangles.l1] at h, fun _ _ _ _ _ _ _ _ r h => by simp [impl_triangles.l2] at h⟩
 | k + 1 => by
  obtain ⟨ih0, ih1, ih2⟩ := impl_triangles.mono_l k
  refine ⟨?_, ?_, ?_⟩
  ·intro y0 y1 y2 y3 y4
   unfold impl_triangles.l0
   repeat' first
   | (with_reducible exact ih0 _ _ _ _ _)
   | (with_reducible exact ih1 _ _ _ _ _ _ _)
   | (with_reducible exact ih2 _ _ _ _ _ _ _ _)
   | (with_reducible exact impl_isSide.mono _ _ _ _ _)
   | (with_reducible exact LeO.refl _)
   | (with_reducible exact LeO.none _)
   | (with_reducible refine LeO.ite ?_ ?_)
   | (with_reducible refine LeO.bind ?_ (fun _ => ?_))
   | exact ih0 _ _ _ _ _
   | exact ih1 _ _ _ _ _ _ _
   | exact ih2 _ _ _ _ _ _ _ _
   | exact impl_isSide.mono _ _ _ _ _
   | exact LeO.none _
   | refine LeO.ite ?_ ?_
   | refine LeO.bind ?_ (fun _ => ?_)
  ·intro y0 y1 y2 y3 y4 y5 y6
   unfold impl_triangles.l1
   repeat' first
   | (with_reducible exact ih0 _ _ _ _ _)
   | (with_reducible exact ih1 _ _ _ _ _ _ _)
   | (with_reducible exact ih2 _ _ _ _ _ _ _ _)
   | (with_reducible exact impl_isSide.mono _ _ _ _ _)
   | (with_reducible exact LeO.refl _)
   | (with_reducible exact LeO.none _)
   | (with_reducible refine LeO.ite ?_ ?_)
   | (with_reducible refine LeO.bind ?_ (fun _ => ?_))
   | exact ih0 _ _ _ _ _
   | exact ih1 _ _ _ _ _ _ _
   | exact ih2 _ _ _ _ _ _ _ _
   | exact impl_isSide.mono _ _ _ _ _
   | exact LeO.none _
   | refine LeO.ite ?_ ?_
   | refine LeO.bind ?_ (fun _ => ?_)
  ·intro y0 y1 y2 y3 y4 y5 y6 y7
   unfold impl_triangles.l2
   repeat' first
   | (with_reducible exact ih0 _ _ _ _ _)
   | (with_reducible exact ih1 _ _ _ _ _ _ _)
   | (with_reducible exact ih2 _ _ _ _ _ _ _ _)
   | (with_reducible exact impl_isSide.mono _ _ _ _ _)
   | (with_reducible exact LeO.refl _)
   | (with_reducible exact LeO.none _)
   | (with_reducible refine LeO.ite ?_ ?_)
   | (with_reducible refine LeO.bind ?_ (fun _ => ?_))
   | exact ih0 _ _ _ _ _
   | exact ih1 _ _ _ _ _ _ _
   | exact ih2 _ _ _ _ _ _ _ _
   | exact impl_isSide.mono _ _ _ _ _
   | exact LeO.none _
   | refine LeO.ite ?_ ?_
   | refine LeO.bind ?_ (fun _ => ?_)
theorem impl_triangles.mono : ∀ a0 a1 k, LeO (impl_triangles.f k a0 a1) (impl_triangles.f (k + 1) a0 a1) := by
 intro a0 a1 k
 obtain ⟨ih0, ih1, ih2⟩ := impl_triangles.mono_l k
 unfold impl_triangles.f
 repeat' first
   | (with_reducible exact ih0 _ _ _ _ _)
   | (with_reducible exact ih1 _ _ _ _ _ _ _)
   | (with_reducible exact ih2 _ _ _ _ _ _ _ _)
   | (with_reducible exact impl_isSide.mono _ _ _ _ _)
   | (with_reducible exact LeO.refl _)
   | (with_reducible exact LeO.none _)
   | (with_reducible refine LeO.ite ?_ ?_)
   | (with_reducible refine LeO.bind ?_ (fun _ => ?_))
   | exact ih0 _ _ _ _ _
   | exact ih1 _ _ _ _ _ _ _
   | exact ih2 _ _ _ _ _ _ _ _
   | exact impl_isSide.mono _ _ _ _ _
   | exact LeO.none _
   | refine LeO.ite ?_ ?_
   | refine LeO.bind ?_ (fun _ => ?_)
set_option maxHeartbeats 8000000 in
set_option maxRecDepth 100000 in
theorem impl_triangles.calls (k : Nat) (a0 : Int) (A1 : Option Addr) (c1 : Nat) (l1 : List (S38)) (r : List (List Int)) (w : World) (hr1 : Kd.C k38 w A1 l1.length l1) (hc1 : l1.length ≤ c1) (h : impl_triangles.f k a0 l1 = some r) :
  Calls Tryz.prog 59 #[.int .i64 a0, .slice A1 l1.length c1] w fun e w' => ∃ v0_ : Value, e = .returned (v0_) ∧ Kd.S (Kd.slice 3 (Kd.int .i64)) 24 w' w.heap.size (fun _ => True) v0_ r ∧ Below w.heap.size w w' := by
 have HR1 := Aside0.mk hr1
 have HC1 := Aside0.mk hc1
 clear hr1 hc1
 have HB := Aside0.mk (Below.refl w.heap.size w)
 have H : (impl_triangles.l0 k a0 l1 (([] : List (List Int))) a0 0) = some r := h
 clear h
 obtain ⟨y314, hy314⟩ : ∃ y_ : List (List Int), y_ = (([] : List (List Int))) := ⟨_, rfl⟩
 replace H : (impl_triangles.l0 k a0 l1 y314 a0 0) = some r := hyy_ hy314 H
 have Ny314 := Aside0.mk hy314
 clear hy314
 have H' := Aside0.mk H
 clear H
 go_enter Tryz.func59, Tryz.ntmps59
 go_wp2_with (first | ((with_reducible refine gate_dst (N := 9) rfl ?_); refine Kd.S_lit (Kd.slice 3 (Kd.int .i64)) _ 24 ?hg (N := 9) ?hd (xs := ([] : List (List Int))) (inner := []) (ok := fun _ => True) (okp := fun _ => True) ?hr ?hp (fun _ hk => hk) trivial (Below.refl _ _) (Nat.le_refl _) (by simp) ?_; (case hd => rfl); (case hg => rfl); (case hr => first | (go_simp; done) | (go_simp; rfl)); (case hp => exact (Reps.none _ _)); intro v315 w3 ho4 hb hg_ hnew_; clear hg_ hnew_; (first | rw [← Ny314.out] at ho4 | (simp only [Int.reduceToNat] at ho4; rw [← Ny314.out] at ho4)); have HO316 := Aside0.mk (Kd.S_lower ho4 (below_size blw_)); replace HB := Aside0.mk (below_step blw_ hb); clear hb ho4))
 go_loopg [5, 11] k (fun kq v5 v11 w' => ∃ (x5_1 : List (List Int)) (x11_1 : Int), v11 = .int .i64 x11_1 ∧ Aside0 (impl_triangles.l0 kq a0 l1 x5_1 a0 x11_1 = some r) ∧ Aside0 (kq ≤ k) ∧ Aside0 (Kd.S (Kd.slice 3 (Kd.int .i64)) 24 w' w.heap.size (fun _ => True) v5 x5_1) ∧ Aside0 (Below w.heap.size w w'))
 case atStart => exact ⟨(y314), (0), rsd_, H', ⟨Nat.le_refl _⟩, ⟨sa_ HO316.out⟩, ⟨blw_⟩⟩
 case round =>
  clear H'
  try clear c1
  try clear p2
  try clear HO_5
  obtain ⟨x5_1, x11_1, rfl, HA, HK1, HO_5, HB⟩ := hrel
  cases gk with
  | zero => exact absurd HA.out (by simp [impl_triangles.l0])
  | succ k1 =>
   have H := HA.out
   clear HA
   simp only [impl_triangles.l0] at H
   by_cases c5 : x11_1 < a0
   ·rw [if_pos c5] at H
    have c5b0 : decide (x11_1 < a0) = true := decide_eq_true c5
    clear c5
    have H' := Aside0.mk H
    clear H
    go_wp2
    go_loopg [5, 7] k1 (fun kq v5 v7 w' => ∃ (x5_2 : List (List Int)) (x7_2 : Int), v7 = .int .i64 x7_2 ∧ Aside0 (impl_triangles.l1 kq a0 l1 x5_2 x11_1 x7_2 a0 x11_1 = some r) ∧ Aside0 (kq ≤ k1) ∧ Aside0 (Kd.S (Kd.slice 3 (Kd.int .i64)) 24 w' w.heap.size (fun _ => True) v5 x5_2) ∧ Aside0 (Below w.heap.size w w'))
    case atStart => exact ⟨(x5_1), (wrap64 (x11_1 + 1)), rsd_, H', ⟨Nat.le_refl _⟩, ⟨sa_ HO_5.out⟩, ⟨blw_⟩⟩
    case round =>
     clear H'
     try clear c1
     try clear p2
     try clear c5
     try clear c5b0
     try clear p2
     try clear HO_5
     obtain ⟨x5_2, x7_2, rfl, HA, HK2, HO_5, HB⟩ := hrel
     cases gk with
     | zero => exact absurd HA.out (by simp [impl_triangles.l1])
     | succ k2 =>
      have H := HA.out
      clear HA
      simp only [impl_triangles.l1] at H
      by_cases c6 : x7_2 < a0
      ·rw [if_pos c6] at H
       have c6b0 : decide (x7_2 < a0) = true := decide_eq_true c6
       clear c6
       have H' := Aside0.mk H
       clear H
       go_wp2
       go_loopg [5, 8] k2 (fun kq v5 v8 w' => ∃ (x5_3 : List (List Int)) (x8_3 : Int), v8 = .int .i64 x8_3 ∧ Aside0 (impl_triangles.l2 kq a0 l1 x5_3 x11_1 x7_2 x8_3 a0 x11_1 = some r) ∧ Aside0 (kq ≤ k2) ∧ Aside0 (Kd.S (Kd.slice 3 (Kd.int .i64)) 24 w' w.heap.size (fun _ => True) v5 x5_3) ∧ Aside0 (Below w.heap.size w w'))
       case atStart => exact ⟨(x5_2), (wrap64 (x7_2 + 1)), rsd_, H', ⟨Nat.le_refl _⟩, ⟨sa_ HO_5.out⟩, ⟨blw_⟩⟩
       case round =>
        clear H'
        try clear c1
        try clear p2
        try clear c5
        try clear c5b0
        try clear c6
        try clear c6b0
        try clear p6
        try clear p2
        try clear HO_5
        obtain ⟨x5_3, x8_3, rfl, HA, HK3, HO_5, HB⟩ := hrel
        cases gk with
        | zero => exact absurd HA.out (by simp [impl_triangles.l2])
        | succ k3 =>
         have H := HA.out
         clear HA
         simp only [impl_triangles.l2] at H
         by_cases c7 : x8_3 < a0
         ·rw [if_pos c7] at H
          have c7b0 : decide (x8_3 < a0) = true := decide_eq_true c7
          clear c7
          replace H := Option.bind_eq_some_iff.mp H
          obtain ⟨t317, A80, H⟩ := H
          replace H : (if t317 = true then ((impl_isSide.f k3 a0 l1 x7_2 x8_3).bind fun t318 => (if t318 = true then ((impl_isSide.f k3 a0 l1 x11_1 x8_3).bind fun t319 => (if t319 = true then (if x5_3.length < 5864062014805 then (impl_triangles.l2 k3 a0 l1 (x5_3 ++ [(([x11_1, x7_2, x8_3] : List Int))]) x11_1 x7_2 (wrap64 (x8_3 + 1)) a0 x11_1) else (none)) else (impl_triangles.l2 k3 a0 l1 x5_3 x11_1 x7_2 (wrap64 (x8_3 + 1)) a0 x11_1))) else (impl_triangles.l2 k3 a0 l1 x5_3 x11_1 x7_2 (wrap64 (x8_3 + 1)) a0 x11_1))) else (impl_triangles.l2 k3 a0 l1 x5_3 x11_1 x7_2 (wrap64 (x8_3 + 1)) a0 x11_1)) = some r := H
          have A8 := Aside0.mk A80
          clear A80
          by_cases c9 : t317 = true
          ·subst c9
           replace H : ((impl_isSide.f k3 a0 l1 x7_2 x8_3).bind fun t318 => (if t318 = true then ((impl_isSide.f k3 a0 l1 x11_1 x8_3).bind fun t319 => (if t319 = true then (if x5_3.length < 5864062014805 then (impl_triangles.l2 k3 a0 l1 (x5_3 ++ [(([x11_1, x7_2, x8_3] : List Int))]) x11_1 x7_2 (wrap64 (x8_3 + 1)) a0 x11_1) else (none)) else (impl_triangles.l2 k3 a0 l1 x5_3 x11_1 x7_2 (wrap64 (x8_3 + 1)) a0 x11_1))) else (impl_triangles.l2 k3 a0 l1 x5_3 x11_1 x7_2 (wrap64 (x8_3 + 1)) a0 x11_1))) = some r := by rw [if_pos rfl] at H; exact H
           replace H := Option.bind_eq_some_iff.mp H
           obtain ⟨t318, A100, H⟩ := H
           replace H : (if t318 = true then ((impl_isSide.f k3 a0 l1 x11_1 x8_3).bind fun t319 => (if t319 = true then (if x5_3.length < 5864062014805 then (impl_triangles.l2 k3 a0 l1 (x5_3 ++ [(([x11_1, x7_2, x8_3] : List Int))]) x11_1 x7_2 (wrap64 (x8_3 + 1)) a0 x11_1) else (none)) else (impl_triangles.l2 k3 a0 l1 x5_3 x11_1 x7_2 (wrap64 (x8_3 + 1)) a0 x11_1))) else (impl_triangles.l2 k3 a0 l1 x5_3 x11_1 x7_2 (wrap64 (x8_3 + 1)) a0 x11_1)) = some r := H
           have A10 := Aside0.mk A100
           clear A100
           by_cases c11 : t318 = true
           ·subst c11
            replace H : ((impl_isSide.f k3 a0 l1 x11_1 x8_3).bind fun t319 => (if t319 = true then (if x5_3.length < 5864062014805 then (impl_triangles.l2 k3 a0 l1 (x5_3 ++ [(([x11_1, x7_2, x8_3] : List Int))]) x11_1 x7_2 (wrap64 (x8_3 + 1)) a0 x11_1) else (none)) else (impl_triangles.l2 k3 a0 l1 x5_3 x11_1 x7_2 (wrap64 (x8_3 + 1)) a0 x11_1))) = some r := by rw [if_pos rfl] at H; exact H
            replace H := Option.bind_eq_some_iff.mp H
            obtain ⟨t319, A120, H⟩ := H
            replace H : (if t319 = true then (if x5_3.length < 5864062014805 then (impl_triangles.l2 k3 a0 l1 (x5_3 ++ [(([x11_1, x7_2, x8_3] : List Int))]) x11_1 x7_2 (wrap64 (x8_3 + 1)) a0 x11_1) else (none)) else (impl_triangles.l2 k3 a0 l1 x5_3 x11_1 x7_2 (wrap64 (x8_3 + 1)) a0 x11_1)) = some r := H
            have A12 := Aside0.mk A120
            clear A120
            by_cases c13 : t319 = true
            ·subst c13
             replace H : (if x5_3.length < 5864062014805 then (impl_triangles.l2 k3 a0 l1 (x5_3 ++ [(([x11_1, x7_2, x8_3] : List Int))]) x11_1 x7_2 (wrap64 (x8_3 + 1)) a0 x11_1) else (none)) = some r := by rw [if_pos rfl] at H; exact H
             obtain ⟨y320, hy320⟩ : ∃ y_ : List Int, y_ = (([x11_1, x7_2, x8_3] : List Int)) := ⟨_, rfl⟩
             replace H : (if x5_3.length < 5864062014805 then (impl_triangles.l2 k3 a0 l1 (x5_3 ++ [y320]) x11_1 x7_2 (wrap64 (x8_3 + 1)) a0 x11_1) else (none)) = some r := hyy_ hy320 H
             have Ny320 := Aside0.mk hy320
             clear hy320
             by_cases c14 : x5_3.length < 5864062014805
             case neg=>rw [if_neg c14] at H;exact absurd H (by simp)
             rw [if_pos c14] at H
             have LMc14 := Aside0.mk c14
             clear c14
             obtain ⟨y323, hy323⟩ : ∃ y_ : List (List Int), y_ = (x5_3 ++ [y320]) := ⟨_, rfl⟩
             replace H : (impl_triangles.l2 k3 a0 l1 y323 x11_1 x7_2 (wrap64 (x8_3 + 1)) a0 x11_1) = some r := hyy_ hy323 H
             have Ny323 := Aside0.mk hy323
             clear hy323
             have H' := Aside0.mk H
             clear H
             go_wp2_with (first | ((with_reducible refine gate_callee (f := 69) rfl ?_); refine goesL_ (some 32) rfl rfl Tryz.func69 (by kernel_rfl) rfl #[.int .i64 a0, .slice A1 l1.length c1, .int .i64 x11_1, .int .i64 x7_2] rfl amp_ ?_; (with_reducible refine (impl_isSide.calls k3 a0 _ _ l1 x11_1 x7_2 true _ ?side1 ?side2 A8.out).mono ?_); (case side1 => exact cd_ (Kd.C_below HR1.out HB.out)); (case side2 => exact HC1.out); rintro e w15 ⟨rfl, hb⟩; refine ⟨_, rfl, ?_⟩; replace HO_5 := Aside0.mk (Kd.S_below (sa_ HO_5.out) hb); replace HB := Aside0.mk (below_step blw_ hb); (try clear hb); (try clear hb2); (try clear hk); (try clear hi)) | (go_at_call 69; (with_reducible refine (impl_isSide.calls k3 a0 _ _ l1 x7_2 x8_3 true _ ?side1 ?side2 A10.out).mono ?_); (case side1 => exact cd_ (Kd.C_below HR1.out HB.out)); (case side2 => exact HC1.out); rintro e w16 ⟨rfl, hb⟩; replace HO_5 := Aside0.mk (Kd.S_below (sa_ HO_5.out) hb); replace HB := Aside0.mk (below_step blw_ hb); (try clear hb); (try clear hb2); (try clear hk); (try clear hi)) | (go_at_call 69; (with_reducible refine (impl_isSide.calls k3 a0 _ _ l1 x11_1 x8_3 true _ ?side1 ?side2 A12.out).mono ?_); (case side1 => exact cd_ (Kd.C_below HR1.out HB.out)); (case side2 => exact HC1.out); rintro e w17 ⟨rfl, hb⟩; replace HO_5 := Aside0.mk (Kd.S_below (sa_ HO_5.out) hb); replace HB := Aside0.mk (below_step blw_ hb); (try clear hb); (try clear hb2); (try clear hk); (try clear hi)) | ((with_reducible refine gate_dst (N := 51) rfl ?_); refine Kd.R_lit (Kd.int .i64) _ 3 ?hg (N := 51) ?hd (xs := ([x11_1, x7_2, x8_3] : List Int)) (inner := [.int .i64 x11_1, .int .i64 x7_2, .int .i64 x8_3]) (ok := fun _ => True) (okp := fun _ => True) ?hr ?hp (fun _ hk => hk) trivial (Below.refl _ _) (Nat.le_refl _) (by simp) ?_; (case hd => rfl); (case hg => rfl); (case hr => first | (go_simp; done) | (go_simp; rfl)); (case hp => exact (Reps.one (show Kd.M (Kd.int .i64) _ _ _ x11_1 [.int .i64 x11_1] from rfl) (Reps.one (show Kd.M (Kd.int .i64) _ _ _ x7_2 [.int .i64 x7_2] from rfl) (Reps.one (show Kd.M (Kd.int .i64) _ _ _ x8_3 [.int .i64 x8_3] from rfl) (Reps.none _ _))))); intro v321 w18 ho19 hb hg_ hnew_; clear hg_ hnew_; (first | rw [← Ny320.out] at ho19 | (simp only [Int.reduceToNat] at ho19; rw [← Ny320.out] at ho19)); have HO322 := Aside0.mk (Kd.R_lower ho19 (below_size blw_)); replace HO_5 := Aside0.mk (Kd.S_elder' (sa_ HO_5.out) (Kd.R_base ho19) hb); replace HB := Aside0.mk (below_step blw_ hb); clear hb ho19; obtain ⟨Ao21, co21, eo21⟩ := Kd.R_slice HO322.out; subst eo21) | ((with_reducible refine gate_builtin (b := .append) (xs := #[.tmp 47, .tmp 52]) rfl ?_); at_builtin; refine Kd.S_append (Kd.slice 3 (Kd.int .i64)) (w0 := w) w.heap.size rfl (.tmp 47) (.tmp 52) 82 24 (.slice none 0 0) 24 rfl Tryz.underlying82 info24 rfl (by decide) (by omega) u5 x5_3 y320 [.slice Ao21 y320.length co21] (fun _ => True) (fun k_ => some k_ = (.slice Ao21 y320.length co21 : Value).ownBlock) rfl rfl ?aP (fun k_ hk_ => ((Kd.R_mono (ok' := fun k_ => ((fun _ => True)) k_ ∧ some k_ ≠ (u5 : Value).ownBlock) (Kd.R_apart' (HO322.out) (Kd.S_typed HO_5.out) (by decide)) (fun k_ hk => ⟨trivial, hk.2⟩))).1 k_ hk_.symm) ?aF ?aO ?aB ?aS ?aL ?_; (case aP => exact Kd.M_row (Kd.R_mono (Kd.R_tight rfl (Kd.R_mono (ok' := fun k_ => ((fun _ => True)) k_ ∧ some k_ ≠ (u5 : Value).ownBlock) (Kd.R_apart' (HO322.out) (Kd.S_typed HO_5.out) (by decide)) (fun k_ hk => ⟨trivial, hk.2⟩))) (fun _ h_ => h_))); (case aB => exact blw_); (case aF => exact (fun _ _ => trivial)); (case aO => exact (by (with_reducible repeat (first | apply Kd.S_alloc | apply Kd.S_drewN | apply Kd.S_drew)); exact Kd.S_mono HO_5.out (fun k_ hk => ⟨trivial, fun e_ => hk.2 e_⟩))); (case aS => exact (below_size blw_)); (case aL => have := LMc14.out; omega); intro v324 w20 ho hb hg hat; rw [← Ny323.out] at ho; have HO325 := Aside0.mk (ho); replace HB := Aside0.mk (hb); clear HO_5 HO322; clear ho hb hg hat))
             go_roundg k3
             case measure => have := HK1.out; have := HK2.out; have := HK3.out; omega
             case rel => exact ⟨(y323), (wrap64 (x8_3 + 1)), rsd_, H', ⟨by have := HK1.out; have := HK2.out; have := HK3.out; omega⟩, ⟨sa_ HO325.out⟩, ⟨blw_⟩⟩
            ·replace c13 := Bool.eq_false_iff.mpr c13
             subst c13
             replace H : (impl_triangles.l2 k3 a0 l1 x5_3 x11_1 x7_2 (wrap64 (x8_3 + 1)) a0 x11_1) = some r := by rw [if_neg (show ¬ (false = true) by decide)] at H; exact H
             have H' := Aside0.mk H
             clear H
             go_wp2_with (first | ((with_reducible refine gate_callee (f := 69) rfl ?_); refine goesL_ (some 32) rfl rfl Tryz.func69 (by kernel_rfl) rfl #[.int .i64 a0, .slice A1 l1.length c1, .int .i64 x11_1, .int .i64 x7_2] rfl amp_ ?_; (with_reducible refine (impl_isSide.calls k3 a0 _ _ l1 x11_1 x7_2 true _ ?side1 ?side2 A8.out).mono ?_); (case side1 => exact cd_ (Kd.C_below HR1.out HB.out)); (case side2 => exact HC1.out); rintro e w22 ⟨rfl, hb⟩; refine ⟨_, rfl, ?_⟩; replace HO_5 := Aside0.mk (Kd.S_below (sa_ HO_5.out) hb); replace HB := Aside0.mk (below_step blw_ hb); (try clear hb); (try clear hb2); (try clear hk); (try clear hi)) | (go_at_call 69; (with_reducible refine (impl_isSide.calls k3 a0 _ _ l1 x7_2 x8_3 true _ ?side1 ?side2 A10.out).mono ?_); (case side1 => exact cd_ (Kd.C_below HR1.out HB.out)); (case side2 => exact HC1.out); rintro e w23 ⟨rfl, hb⟩; replace HO_5 := Aside0.mk (Kd.S_below (sa_ HO_5.out) hb); replace HB := Aside0.mk (below_step blw_ hb); (try clear hb); (try clear hb2); (try clear hk); (try clear hi)) | (go_at_call 69; (with_reducible refine (impl_isSide.calls k3 a0 _ _ l1 x11_1 x8_3 false _ ?side1 ?side2 A12.out).mono ?_); (case side1 => exact cd_ (Kd.C_below HR1.out HB.out)); (case side2 => exact HC1.out); rintro e w24 ⟨rfl, hb⟩; replace HO_5 := Aside0.mk (Kd.S_below (sa_ HO_5.out) hb); replace HB := Aside0.mk (below_step blw_ hb); (try clear hb); (try clear hb2); (try clear hk); (try clear hi)))
             go_roundg k3
             case measure => have := HK1.out; have := HK2.out; have := HK3.out; omega
             case rel => exact ⟨(x5_3), (wrap64 (x8_3 + 1)), rsd_, H', ⟨by have := HK1.out; have := HK2.out; have := HK3.out; omega⟩, ⟨sa_ HO_5.out⟩, ⟨blw_⟩⟩
           ·replace c11 := Bool.eq_false_iff.mpr c11
            subst c11
            replace H : (impl_triangles.l2 k3 a0 l1 x5_3 x11_1 x7_2 (wrap64 (x8_3 + 1)) a0 x11_1) = some r := by rw [if_neg (show ¬ (false = true) by decide)] at H; exact H
            have H' := Aside0.mk H
            clear H
            go_wp2_with (first | ((with_reducible refine gate_callee (f := 69) rfl ?_); refine goesL_ (some 32) rfl rfl Tryz.func69 (by kernel_rfl) rfl #[.int .i64 a0, .slice A1 l1.length c1, .int .i64 x11_1, .int .i64 x7_2] rfl amp_ ?_; (with_reducible refine (impl_isSide.calls k3 a0 _ _ l1 x11_1 x7_2 true _ ?side1 ?side2 A8.out).mono ?_); (case side1 => exact cd_ (Kd.C_below HR1.out HB.out)); (case side2 => exact HC1.out); rintro e w25 ⟨rfl, hb⟩; refine ⟨_, rfl, ?_⟩; replace HO_5 := Aside0.mk (Kd.S_below (sa_ HO_5.out) hb); replace HB := Aside0.mk (below_step blw_ hb); (try clear hb); (try clear hb2); (try clear hk); (try clear hi)) | (go_at_call 69; (with_reducible refine (impl_isSide.calls k3 a0 _ _ l1 x7_2 x8_3 false _ ?side1 ?side2 A10.out).mono ?_); (case side1 => exact cd_ (Kd.C_below HR1.out HB.out)); (case side2 => exact HC1.out); rintro e w26 ⟨rfl, hb⟩; replace HO_5 := Aside0.mk (Kd.S_below (sa_ HO_5.out) hb); replace HB := Aside0.mk (below_step blw_ hb); (try clear hb); (try clear hb2); (try clear hk); (try clear hi)))
            go_roundg k3
            case measure => have := HK1.out; have := HK2.out; have := HK3.out; omega
            case rel => exact ⟨(x5_3), (wrap64 (x8_3 + 1)), rsd_, H', ⟨by have := HK1.out; have := HK2.out; have := HK3.out; omega⟩, ⟨sa_ HO_5.out⟩, ⟨blw_⟩⟩
          ·replace c9 := Bool.eq_false_iff.mpr c9
           subst c9
           replace H : (impl_triangles.l2 k3 a0 l1 x5_3 x11_1 x7_2 (wrap64 (x8_3 + 1)) a0 x11_1) = some r := by rw [if_neg (show ¬ (false = true) by decide)] at H; exact H
           have H' := Aside0.mk H
           clear H
           go_wp2_with (first | ((with_reducible refine gate_callee (f := 69) rfl ?_); refine goesL_ (some 32) rfl rfl Tryz.func69 (by kernel_rfl) rfl #[.int .i64 a0, .slice A1 l1.length c1, .int .i64 x11_1, .int .i64 x7_2] rfl amp_ ?_; (with_reducible refine (impl_isSide.calls k3 a0 _ _ l1 x11_1 x7_2 false _ ?side1 ?side2 A8.out).mono ?_); (case side1 => exact cd_ (Kd.C_below HR1.out HB.out)); (case side2 => exact HC1.out); rintro e w27 ⟨rfl, hb⟩; refine ⟨_, rfl, ?_⟩; replace HO_5 := Aside0.mk (Kd.S_below (sa_ HO_5.out) hb); replace HB := Aside0.mk (below_step blw_ hb); (try clear hb); (try clear hb2); (try clear hk); (try clear hi)))
           go_roundg k3
           case measure => have := HK1.out; have := HK2.out; have := HK3.out; omega
           case rel => exact ⟨(x5_3), (wrap64 (x8_3 + 1)), rsd_, H', ⟨by have := HK1.out; have := HK2.out; have := HK3.out; omega⟩, ⟨sa_ HO_5.out⟩, ⟨blw_⟩⟩
         ·rw [if_neg c7] at H
          have c7b0 : decide (x8_3 < a0) = false := decide_eq_false c7
          clear c7
          have H' := Aside0.mk H
          clear H
          go_wp2
          go_roundg k3
          case measure => have := HK1.out; have := HK2.out; have := HK3.out; omega
          case rel => exact ⟨(x5_3), (wrap64 (x7_2 + 1)), rsd_, H', ⟨by have := HK1.out; have := HK2.out; have := HK3.out; omega⟩, ⟨sa_ HO_5.out⟩, ⟨blw_⟩⟩
      ·rw [if_neg c6] at H
       have c6b0 : decide (x7_2 < a0) = false := decide_eq_false c6
       clear c6
       have H' := Aside0.mk H
       clear H
       go_wp2
       go_roundg k2
       case measure => have := HK1.out; have := HK2.out; omega
       case rel => exact ⟨(x5_2), (wrap64 (x11_1 + 1)), rsd_, H', ⟨by have := HK1.out; have := HK2.out; omega⟩, ⟨sa_ HO_5.out⟩, ⟨blw_⟩⟩
   ·rw [if_neg c5] at H
    have c5b0 : decide (x11_1 < a0) = false := decide_eq_false c5
    clear c5
    obtain rfl := Option.some.inj H
    go_wp2
    go_ret
    exact ⟨_, by first | rfl | (simp [errW_none, errW_some] <;> rfl) | (simp [*, errW_none, errW_some] <;> rfl), by (with_reducible repeat (first | apply Kd.S_alloc | apply Kd.S_drewN | apply Kd.S_drew)); exact HO_5.out, blw_⟩

/-! ### slices_Index_int_int: function 70 -/
def slices_Index_int_int.l0 : Nat → List Int → Int → Int → Int → Option (Int)
 | 0, _, _, _, _ => none
 | k + 1, x0, x1, x7, x8 => if x8 < x7 then (if 0 ≤ x8 then (if x8 < (x0.length : Int) then (if x1 = (rd x0 x8) then (some x8) else (slices_Index_int_int.l0 k x0 x1 x7 (wrap64 (x8 + 1)))) else (none)) else (none)) else (some (-1))
def slices_Index_int_int.f (k : Nat) (l0 : List Int) (a1 : Int) : Option (Int) := slices_Index_int_int.l0 k l0 a1 (l0.length : Int) 0
theorem slices_Index_int_int.mono_l : ∀ k, (∀ y0 y1 y2 y3, LeO (slices_Index_int_int.l0 k y0 y1 y2 y3) (slices_Index_int_int.l0 (k + 1) y0 y1 y2 y3))
 | 0 => fun _ _ _ _ r h => by simp [slices_Index_int_int.l0] at h
 | k + 1 => by
  have ih0 := slices_Index_int_int.mono_l k
  ·intro y0 y1 y2 y3
   unfold slices_Index_int_int.l0
   repeat' first
   | (with_reducible exact ih0 _ _ _ _)
   | (with_reducible exact LeO.refl _)
   | (with_reducible exact LeO.none _)
   | (with_reducible refine LeO.ite ?_ ?_)
   | (with_reducible refine LeO.bind ?_ (fun _ => ?_))
   | exact ih0 _ _ _ _
   | exact LeO.none _
   | refine LeO.ite ?_ ?_
   | refine LeO.bind ?_ (fun _ => ?_)
theorem slices_Index_int_int.mono : ∀ a0 a1 k, LeO (slices_Index_int_int.f k a0 a1) (slices_Index_int_int.f (k + 1) a0 a1) := by
 intro a0 a1 k
 have ih0 := slices_Index_int_int.mono_l k
 unfold slices_Index_int_int.f
 repeat' first
   | (with_reducible exact ih0 _ _ _ _)
   | (with_reducible exact LeO.refl _)
   | (with_reducible exact LeO.none _)
   | (with_reducible refine LeO.ite ?_ ?_)
   | (with_reducible refine LeO.bind ?_ (fun _ => ?_))
   | exact ih0 _ _ _ _
   | exact LeO.none _
   | refine LeO.ite ?_ ?_
   | refine LeO.bind ?_ (fun _ => ?_)
set_option maxHeartbeats 8000000 in
set_option maxRecDepth 100000 in
theorem slices_Index_int_int.calls (k : Nat) (A0 : Option Addr) (c0 : Nat) (l0 : List Int) (a1 : Int) (r : Int) (w : World) (hr0 : Kd.C (Kd.int .i64) w A0 l0.length l0) (hc0 : l0.length ≤ c0) (h : slices_Index_int_int.f k l0 a1 = some r) :
  Calls Tryz.prog 70 #[.slice A0 l0.length c0, .int .i64 a1] w fun e w' => e = .returned (.int .i64 r) ∧ Drawn0 w w' := by
 have HR0 := Aside0.mk hr0
 have HC0 := Aside0.mk hc0
 clear hr0 hc0
 have H : (slices_Index_int_int.l0 k l0 a1 (l0.length : Int) 0) = some r := h
 clear h
 have H' := Aside0.mk H
 clear H
 go_enter Tryz.func70, Tryz.ntmps70
 go_wp2
 go_loopg [8] k (fun kq v8 w' => ∃ (x8_1 : Int), v8 = .int .i64 x8_1 ∧ Aside0 (slices_Index_int_int.l0 kq l0 a1 (l0.length : Int) x8_1 = some r) ∧ Aside0 (kq ≤ k) ∧ Drawn0 w w')
 case atStart => exact ⟨(0), rsd_, H', ⟨Nat.le_refl _⟩, by repeat (first | exact Drawn0.refl _ | apply Drawn0.step)⟩
 case round =>
  clear H'
  try clear p2
  obtain ⟨x8_1, rfl, HA, HK1, ⟨m1, rfl⟩⟩ := hrel
  cases gk with
  | zero => exact absurd HA.out (by simp [slices_Index_int_int.l0])
  | succ k1 =>
   have H := HA.out
   clear HA
   simp only [slices_Index_int_int.l0] at H
   by_cases c3 : x8_1 < (l0.length : Int)
   ·rw [if_pos c3] at H
    have c3b0 : decide (x8_1 < (l0.length : Int)) = true := decide_eq_true c3
    clear c3
    by_cases c4 : 0 ≤ x8_1
    case neg=>rw [if_neg c4] at H;exact absurd H (by simp)
    rw [if_pos c4] at H
    have c4b0 : decide (0 ≤ x8_1) = true := decide_eq_true c4
    clear c4
    by_cases c5 : x8_1 < (l0.length : Int)
    case neg=>rw [if_neg c5] at H;exact absurd H (by simp)
    rw [if_pos c5] at H
    have c5b0 : decide (x8_1 < (l0.length : Int)) = true := decide_eq_true c5
    clear c5
    by_cases c6 : a1 = (rd l0 x8_1)
    ·rw [if_pos c6] at H
     have c6b0 : (a1 == (rd l0 x8_1)) = true := beq_iff_eq.mpr c6
     have c6b1 : (a1 != (rd l0 x8_1)) = false := bne_eq_false_iff_eq.mpr c6
     clear c6
     obtain rfl := Option.some.inj H
     have p326 : 0 ≤ (x8_1 : Int) := odt_
     have q326 : x8_1 < (l0.length : Int) := odt_
     obtain ⟨ad326, e326, hx326_0⟩ := Kd.at_int HR0.out x8_1 p326 q326
     cases e326
     replace p326 := eq_true p326
     replace q326 := eq_true q326
     go_wp2
     go_ret
     exact dr_
    ·rw [if_neg c6] at H
     have c6b0 : (a1 == (rd l0 x8_1)) = false := beq_eq_false_iff_ne.mpr c6
     have c6b1 : (a1 != (rd l0 x8_1)) = true := bne_iff_ne.mpr c6
     have H' := Aside0.mk H
     clear H
     have p326 : 0 ≤ (x8_1 : Int) := odt_
     have q326 : x8_1 < (l0.length : Int) := odt_
     obtain ⟨ad326, e326, hx326_0⟩ := Kd.at_int HR0.out x8_1 p326 q326
     cases e326
     replace p326 := eq_true p326
     replace q326 := eq_true q326
     go_wp2
     go_roundg k1
     case measure => have := HK1.out; omega
     case rel => exact ⟨(wrap64 (x8_1 + 1)), rsd_, H', ⟨by have := HK1.out; omega⟩, by repeat (first | exact Drawn0.refl _ | apply Drawn0.step)⟩
   ·rw [if_neg c3] at H
    have c3b0 : decide (x8_1 < (l0.length : Int)) = false := decide_eq_false c3
    clear c3
    obtain rfl := Option.some.inj H
    go_wp2
    go_ret
    exact dr_

/-! ### slices_Contains_int_int: function 60 -/
def slices_Contains_int_int.f (k : Nat) (l0 : List Int) (a1 : Int) : Option (Bool) := (slices_Index_int_int.f k l0 a1).bind fun t327 => (some (decide (t327 ≥ 0)))
theorem slices_Contains_int_int.mono : ∀ a0 a1 k, LeO (slices_Contains_int_int.f k a0 a1) (slices_Contains_int_int.f (k + 1) a0 a1) := by
 intro a0 a1 k
 unfold slices_Contains_int_int.f
 repeat' first
   | (with_reducible exact slices_Index_int_int.mono _ _ _)
   | (with_reducible exact LeO.refl _)
   | (with_reducible exact LeO.none _)
   | (with_reducible refine LeO.ite ?_ ?_)
   | (with_reducible refine LeO.bind ?_ (fun _ => ?_))
   | exact slices_Index_int_int.mono _ _ _
   | exact LeO.none _
   | refine LeO.ite ?_ ?_
   | refine LeO.bind ?_ (fun _ => ?_)
set_option maxHeartbeats 8000000 in
set_option maxRecDepth 100000 in
theorem slices_Contains_int_int.calls (k : Nat) (A0 : Option Addr) (c0 : Nat) (l0 : List Int) (a1 : Int) (r : Bool) (w : World) (hr0 : Kd.C (Kd.int .i64) w A0 l0.length l0) (hc0 : l0.length ≤ c0) (h : slices_Contains_int_int.f k l0 a1 = some r) :
  Calls Tryz.prog 60 #[.slice A0 l0.length c0, .int .i64 a1] w fun e w' => e = .returned (.bool r) ∧ Drawn0 w w' := by
 have HR0 := Aside0.mk hr0
 have HC0 := Aside0.mk hc0
 clear hr0 hc0
 have H : ((slices_Index_int_int.f k l0 a1).bind fun t327 => (some (decide (t327 ≥ 0)))) = some r := h
 clear h
 replace H := Option.bind_eq_some_iff.mp H
 obtain ⟨t327, A30, H⟩ := H
 replace H : (some (decide (t327 ≥ 0))) = some r := H
 have A3 := Aside0.mk A30
 clear A30
 obtain rfl := Option.some.inj H
 go_enter Tryz.func60, Tryz.ntmps60
 go_wp2_with (first | ((with_reducible refine gate_callee (f := 70) rfl ?_); refine goesL_ (some 7) rfl rfl Tryz.func70 (by kernel_rfl) rfl #[.slice A0 l0.length c0, .int .i64 a1] rfl amp_ ?_; (with_reducible refine (slices_Index_int_int.calls k _ _ l0 a1 t327 _ ?side1 ?side2 A3.out).mono ?_); (case side1 => exact cd_ HR0.out); (case side2 => exact HC0.out); rintro e w' ⟨rfl, ⟨nd, rfl⟩⟩; refine ⟨_, rfl, ?_⟩))
 go_ret
 exact dr_

end Go.Proofs.YtgblginphicacaaGreatDoor.PFnExactCountByFlips
