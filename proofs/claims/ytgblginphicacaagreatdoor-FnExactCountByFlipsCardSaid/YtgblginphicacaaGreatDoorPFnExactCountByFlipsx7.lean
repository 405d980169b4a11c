-- WRITTEN BY A PROGRAM OF THIS WORK (wip/tools/ppatch.py) for this claim.
import Derived.Test.YtgblginphicacaaGreatDoorPFnExactCountByFlipsx0
import Derived.Test.YtgblginphicacaaGreatDoorPFnExactCountByFlipsx2
namespace Go.Proofs.YtgblginphicacaaGreatDoor.PFnExactCountByFlips
open Go.RowKit Go.Proofs.YtgblginphicacaaGreatDoorW.PrintWords Go.Proofs.YtgblginphicacaaGreatDoorW.PrintLast Go.Proofs.YtgblginphicacaaGreatDoorW.PrintMore
attribute [local go_sem] max2_int min2_int max_two min_two max_three min_three max_four min_four   -- for this text's walks alone
set_option linter.unusedVariables false
set_option linter.unusedSimpArgs false

/-! ### spec_poSorted: function 66 -/
mutual
def spec_poSorted.l0 : Nat → List (S38) → List (S38) → Int → Int → Option ((List (S38)))
 | 0, _, _, _, _ => none
 | k + 1, x3, x8, x9, x10 => if x10 < x9 then (if 0 ≤ x10 then (if x10 < (x8.length : Int) then (spec_poSorted.l1 k x3 0 x8 x9 x10 ((rd_T38 x8 x10).f0) ((rd_T38 x8 x10).f1)) else (none)) else (none)) else (some x3)
def spec_poSorted.l1 : Nat → List (S38) → Int → List (S38) → Int → Int → Int → Int → Option ((List (S38)))
 | 0, _, _, _, _, _, _, _ => none
 | k + 1, x3, x6, x8, x9, x10, x130000, x130001 => if x6 < (x3.length : Int) then (if 0 ≤ x6 then ((spec_poLess.f ((rd_T38 x3 x6).f0) ((rd_T38 x3 x6).f1) x130000 x130001).bind fun t131 => (if t131 = true then (spec_poSorted.l1 k x3 (wrap64 (x6 + 1)) x8 x9 x10 x130000 x130001) else ((some (([] : List (S38)) : List (S38))).bind fun y132 => (if x6 ≤ (x3.length : Int) then ((some (x3.take (x6 : Int).toNat : List (S38))).bind fun y135 => (if y132.length + y135.length < 8796093022208 then ((some (y132 ++ y135 : List (S38))).bind fun y139 => ((some (([(⟨x130000, x130001⟩ : S38)] : List (S38)) : List (S38))).bind fun y142 => (if y139.length + y142.length < 8796093022208 then ((some (y139 ++ y142 : List (S38))).bind fun y145 => ((some (x3.drop (x6 : Int).toNat : List (S38))).bind fun y148 => (if y145.length + y148.length < 8796093022208 then (spec_poSorted.l0 k (y145 ++ y148) x8 x9 (wrap64 (x10 + 1))) else (none)))) else (none)))) else (none))) else (none))))) else (none)) else ((some (([] : List (S38)) : List (S38))).bind fun y155 => (if 0 ≤ x6 then (if x6 ≤ (x3.length : Int) then ((some (x3.take (x6 : Int).toNat : List (S38))).bind fun y158 => (if y155.length + y158.length < 8796093022208 then ((some (y155 ++ y158 : List (S38))).bind fun y162 => ((some (([(⟨x130000, x130001⟩ : S38)] : List (S38)) : List (S38))).bind fun y165 => (if y162.length + y165.length < 8796093022208 then ((some (y162 ++ y165 : List (S38))).bind fun y168 => ((some (x3.drop (x6 : Int).toNat : List (S38))).bind fun y171 => (if y168.length + y171.length < 8796093022208 then (spec_poSorted.l0 k (y168 ++ y171) x8 x9 (wrap64 (x10 + 1))) else (none)))) else (none)))) else (none))) else (none)) else (none)))
end
def spec_poSorted.f (k : Nat) (l0 : List (S38)) : Option ((List (S38))) := spec_poSorted.l0 k ([] : List (S38)) l0 (l0.length : Int) 0
theorem spec_poSorted.mono_l : ∀ k, (∀ y0 y1 y2 y3, LeO (spec_poSorted.l0 k y0 y1 y2 y3) (spec_poSorted.l0 (k + 1) y0 y1 y2 y3)) ∧ (∀ y0 y1 y2 y3 y4 y5 y6, LeO (spec_poSorted.l1 k y0 y1 y2 y3 y4 y5 y6) (spec_poSorted.l1 (k + 1) y0 y1 y2 y3 y4 y5 y6))
 | 0 => ⟨fun _ _ _ _ r h => by simp [spec_poSorted.l0] at h, fun _ _ _ _ _ _ _ r h => by simp [spec_poSorted.l1] at h⟩
 | k + 1 => by
  obtain ⟨ih0, ih1⟩ := spec_poSorted.mono_l k
  refine ⟨?_, ?_⟩
  ·intro y0 y1 y2 y3
   unfold spec_poSorted.l0
   repeat' first
   | (with_reducible exact ih0 _ _ _ _)
   | (with_reducible exact ih1 _ _ _ _ _ _ _)
   | (with_reducible exact LeO.refl _)
   | (with_reducible exact LeO.none _)
   | (with_reducible refine LeO.ite ?_ ?_)
   | (with_reducible refine LeO.bind ?_ (fun _ => ?_))
   | exact ih0 _ _ _ _
   | exact ih1 _ _ _ _ _ _ _
   | exact LeO.none _
   | refine LeO.ite ?_ ?_
   | refine LeO.bind ?_ (fun _ => ?_)
  ·intro y0 y1 y2 y3 y4 y5 y6
   unfold spec_poSorted.l1
   repeat' first
   | (with_reducible exact ih0 _ _ _ _)
   | (with_reducible exact ih1 _ _ _ _ _ _ _)
   | (with_reducible exact LeO.refl _)
   | (with_reducible exact LeO.none _)
   | (with_reducible refine LeO.ite ?_ ?_)
   | (with_reducible refine LeO.bind ?_ (fun _ => ?_))
   | exact ih0 _ _ _ _
   | exact ih1 _ _ _ _ _ _ _
   | exact LeO.none _
   | refine LeO.ite ?_ ?_
   | refine LeO.bind ?_ (fun _ => ?_)
theorem spec_poSorted.mono : ∀ a0 k, LeO (spec_poSorted.f k a0) (spec_poSorted.f (k + 1) a0) := by
 intro a0 k
 obtain ⟨ih0, ih1⟩ := spec_poSorted.mono_l k
 unfold spec_poSorted.f
 repeat' first
   | (with_reducible exact ih0 _ _ _ _)
   | (with_reducible exact ih1 _ _ _ _ _ _ _)
   | (with_reducible exact LeO.refl _)
   | (with_reducible exact LeO.none _)
   | (with_reducible refine LeO.ite ?_ ?_)
   | (with_reducible refine LeO.bind ?_ (fun _ => ?_))
   | exact ih0 _ _ _ _
   | exact ih1 _ _ _ _ _ _ _
   | exact LeO.none _
   | refine LeO.ite ?_ ?_
   | refine LeO.bind ?_ (fun _ => ?_)
def spec_poSorted.T6 : Bool × List (List Nat × List Nat) := (true, [([], []), ([], []), ([1], [1]), ([0, 2], [0, 2]), ([3], [3]), ([4], [4]), ([4], [4]), ([5, 6, 4], [4, 5, 6]), ([7, 4], [4, 7]), ([4], [4]), ([8, 9, 4, 4], [4, 8, 9]), ([4, 10], [4, 10])])
def spec_poSorted.B6 : List Nat := [0, 0, 2, 7, 15, 31, 31, 127, 255, 31, 1023, 2047]
theorem spec_poSorted.tab6 : rtab .any (opsOf Tryz.f66 6) = spec_poSorted.T6 := by kernel_rfl
theorem spec_poSorted.bits6 : waitsOk spec_poSorted.T6.2 spec_poSorted.B6 = true := by kernel_rfl
def spec_poSorted.T8 : Bool × List (List Nat × List Nat) := (true, [([], []), ([], []), ([], []), ([1, 2], [1, 2]), ([0, 3], [0, 3]), ([], []), ([5], [5]), ([4, 6, 4], [4, 6]), ([7, 7, 0, 1, 2, 3, 4, 5, 6, 7], [7])])
def spec_poSorted.B8 : List Nat := [0, 0, 0, 6, 15, 0, 32, 127, 255]
theorem spec_poSorted.tab8 : rtab .any (opsOf Tryz.f66 8) = spec_poSorted.T8 := by kernel_rfl
theorem spec_poSorted.bits8 : waitsOk spec_poSorted.T8.2 spec_poSorted.B8 = true := by kernel_rfl
set_option maxHeartbeats 8000000 in
set_option maxRecDepth 100000 in
theorem spec_poSorted.calls (k : Nat) (A0 : Option Addr) (c0 : Nat) (l0 : List (S38)) (r : List (S38)) (w : World) (hr0 : Kd.C k38 w A0 l0.length l0) (hc0 : l0.length ≤ c0) (h : spec_poSorted.f k l0 = some r) :
  Calls Tryz.prog 66 #[.slice A0 l0.length c0] w fun e w' => ∃ v0_ : Value, e = .returned (v0_) ∧ Kd.R k38 38 w' w.heap.size (fun _ => True) v0_ r ∧ Below w.heap.size w w' := by
 have hu38 := Tryz.underlying38
 have HR0 := Aside0.mk hr0
 have HC0 := Aside0.mk hc0
 clear hr0 hc0
 have HB := Aside0.mk (Below.refl w.heap.size w)
 have H : (spec_poSorted.l0 k ([] : List (S38)) l0 (l0.length : Int) 0) = some r := h
 clear h
 have H' := Aside0.mk H
 clear H
 go_enter Tryz.func66, Tryz.ntmps66
 go_wp2
 go_loopg [3, 10] k (fun kq v3 v10 w' => ∃ (x3_1 : List (S38)) (x10_1 : Int), v10 = .int .i64 x10_1 ∧ Aside0 (spec_poSorted.l0 kq x3_1 l0 (l0.length : Int) x10_1 = some r) ∧ Aside0 (kq ≤ k) ∧ Aside0 (Kd.R k38 38 w' w.heap.size (fun _ => True) v3 x3_1) ∧ Aside0 (Below w.heap.size w w'))
 case atStart => exact ⟨(([] : List (S38))), (0), rsd_, H', ⟨Nat.le_refl _⟩, ⟨by first | exact Kd.R_nil _ _ _ _ _ | exact Kd.N_nil _ _ _ _ _ | exact Kd.V_nil _ _ _ _ _ | exact Kd.Q_nil _ _ _ _ _ | exact Kd.S_nil _ _ _ _ _⟩, ⟨blw_⟩⟩
 case round =>
  clear H'
  try clear HO_3
  obtain ⟨x3_1, x10_1, rfl, HA, HK1, HO_3, HB⟩ := hrel
  cases gk with
  | zero => exact absurd HA.out (by simp [spec_poSorted.l0])
  | succ k1 =>
   have H := HA.out
   clear HA
   simp only [spec_poSorted.l0] at H
   by_cases c2 : x10_1 < (l0.length : Int)
   ·rw [if_pos c2] at H
    have c2b0 : decide (x10_1 < (l0.length : Int)) = true := decide_eq_true c2
    clear c2
    by_cases c3 : 0 ≤ x10_1
    case neg=>rw [if_neg c3] at H;exact absurd H (by simp)
    rw [if_pos c3] at H
    have c3b0 : decide (0 ≤ x10_1) = true := decide_eq_true c3
    clear c3
    by_cases c4 : x10_1 < (l0.length : Int)
    case neg=>rw [if_neg c4] at H;exact absurd H (by simp)
    rw [if_pos c4] at H
    have c4b0 : decide (x10_1 < (l0.length : Int)) = true := decide_eq_true c4
    clear c4
    have H' := Aside0.mk H
    clear H
    have p128 : 0 ≤ (x10_1 : Int) := odt_
    have q128 : x10_1 < (l0.length : Int) := odt_
    obtain ⟨ad128, e128, hx128_0, hx128_1⟩ := at_T38 HR0.out x10_1 p128 q128
    cases e128
    (first | replace hx128_0 := (HB.out.cell (World.block_lt_of_cell? w _ hx128_0)).trans hx128_0 | skip)
    (first | replace hx128_1 := (HB.out.cell (World.block_lt_of_cell? w _ hx128_1)).trans hx128_1 | skip)
    replace p128 := eq_true p128
    replace q128 := eq_true q128
    go_wp2_with (first | ((with_reducible refine gate_dst (N := 5) rfl ?_); refine bxe_ 5 #[.int .i64 0, .int .i64 0] 38 ?_; intro gb129 hg w5 hbox hb; have BK129 := Aside0.mk (hbox); have GW129 := gz_ w hg; have GE129 := gz_ w hg; replace HO_3 := Aside0.mk (Kd.R_below (Kd.R_elderB (ra_ HO_3.out) gb129 (Nat.le_of_eq hg.symm)) hb); replace HB := Aside0.mk (below_step blw_ hb); clear hb hbox hg; have hcz6_0 := blc_ (.int .i64 0) BK129 0; have hcz6_1 := blc_ (.int .i64 0) BK129 1; have hfz6_0 := blk_frozen BK129.out 0; have hfz6_1 := blk_frozen BK129.out 1))
    go_loopg [6] k1 (fun kq v6 w' => ∃ (x6_2 : Int), v6 = .int .i64 x6_2 ∧ Aside0 (spec_poSorted.l1 kq x3_1 x6_2 l0 (l0.length : Int) x10_1 ((rd_T38 l0 x10_1).f0) ((rd_T38 l0 x10_1).f1) = some r) ∧ Aside0 (kq ≤ k1) ∧ Aside0 (Kd.R k38 38 w' w.heap.size (fun k_ => k_ ≠ gb129) u3 x3_1) ∧ Aside0 (w'.heap[gb129]? = some (.cells #[.int .i64 ((rd_T38 l0 x10_1).f0), .int .i64 ((rd_T38 l0 x10_1).f1)] 38 (0, 0))) ∧ Aside0 (Below w.heap.size w w'))
    case atStart => exact ⟨(0), rsd_, H', ⟨Nat.le_refl _⟩, ⟨by (with_reducible repeat (first | apply Kd.R_alloc | apply Kd.R_drewN | apply Kd.R_drew)); exact Kd.R_mono (Kd.R_far (p := ⟨gb129, 1, none⟩) (Kd.R_far (p := ⟨gb129, 0, none⟩) (Kd.R_mono HO_3.out (fun k_ hk => (⟨hk, hk.2⟩ : _ ∧ k_ ≠ gb129))) (fun _ hk => hk.2) (.int .i64 ((rd_T38 l0 x10_1).f0))) (fun _ hk => hk.2) (.int .i64 ((rd_T38 l0 x10_1).f1))) (fun _ hk => hk.1.2)⟩, ⟨by (with_reducible repeat (first | refine blk_drewN ?_ _ | refine blk_drew ?_ | refine blk_alloc ?_ _)); refine blk_put (cs := #[.int .i64 ((rd_T38 l0 x10_1).f0), .int .i64 0]) ?_ 1 _ rfl; (with_reducible repeat (first | refine blk_drewN ?_ _ | refine blk_drew ?_ | refine blk_alloc ?_ _)); refine blk_put (cs := #[.int .i64 0, .int .i64 0]) ?_ 0 _ rfl; (with_reducible repeat (first | refine blk_drewN ?_ _ | refine blk_drew ?_ | refine blk_alloc ?_ _)); exact BK129.out⟩, ⟨bls_⟩⟩
    case round =>
     clear H'
     try clear p1
     try clear q1
     try clear hx1
     try clear c2
     try clear c2b0
     try clear p2
     try clear c3
     try clear c3b0
     try clear c4
     try clear c4b0
     try clear c6
     try clear hcz6_0
     try clear hcz6_1
     try clear hfz6_0
     try clear hfz6_1
     try clear hx128_0
     try clear hx128_1
     try clear p128
     try clear q128
     try clear HO_3
     obtain ⟨x6_2, rfl, HA, HK2, HO_3, BK129, HB⟩ := hrel
     cases gk with
     | zero => exact absurd HA.out (by simp [spec_poSorted.l1])
     | succ k2 =>
      have H := HA.out
      clear HA
      simp only [spec_poSorted.l1] at H
      by_cases c7 : x6_2 < (x3_1.length : Int)
      ·rw [if_pos c7] at H
       have c7b0 : decide (x6_2 < (x3_1.length : Int)) = true := decide_eq_true c7
       clear c7
       by_cases c8 : 0 ≤ x6_2
       case neg=>rw [if_neg c8] at H;exact absurd H (by simp)
       rw [if_pos c8] at H
       have c8b0 : decide (0 ≤ x6_2) = true := decide_eq_true c8
       clear c8
       replace H := Option.bind_eq_some_iff.mp H
       obtain ⟨t131, A90, H⟩ := H
       replace H : (if t131 = true then (spec_poSorted.l1 k2 x3_1 (wrap64 (x6_2 + 1)) l0 (l0.length : Int) x10_1 ((rd_T38 l0 x10_1).f0) ((rd_T38 l0 x10_1).f1)) else ((some (([] : List (S38)) : List (S38))).bind fun y132 => (if x6_2 ≤ (x3_1.length : Int) then ((some (x3_1.take (x6_2 : Int).toNat : List (S38))).bind fun y135 => (if y132.length + y135.length < 8796093022208 then ((some (y132 ++ y135 : List (S38))).bind fun y139 => ((some (([(⟨((rd_T38 l0 x10_1).f0), ((rd_T38 l0 x10_1).f1)⟩ : S38)] : List (S38)) : List (S38))).bind fun y142 => (if y139.length + y142.length < 8796093022208 then ((some (y139 ++ y142 : List (S38))).bind fun y145 => ((some (x3_1.drop (x6_2 : Int).toNat : List (S38))).bind fun y148 => (if y145.length + y148.length < 8796093022208 then (spec_poSorted.l0 k2 (y145 ++ y148) l0 (l0.length : Int) (wrap64 (x10_1 + 1))) else (none)))) else (none)))) else (none))) else (none)))) = some r := H
       have A9 := Aside0.mk A90
       clear A90
       by_cases c10 : t131 = true
       ·subst c10
        replace H : (spec_poSorted.l1 k2 x3_1 (wrap64 (x6_2 + 1)) l0 (l0.length : Int) x10_1 ((rd_T38 l0 x10_1).f0) ((rd_T38 l0 x10_1).f1)) = some r := by rw [if_pos rfl] at H; exact H
        have H' := Aside0.mk H
        clear H
        try go_wp2
        replace HO_3 := Aside0.mk (Kd.R_drew HO_3.out)
        replace BK129 := Aside0.mk (blk_drew BK129.out)
        replace HB := Aside0.mk (below_drew1 HB.out)
        obtain ⟨Ao12, co12, eo12⟩ := Kd.R_slice HO_3.out
        (first | subst eo12 | (injection eo12 with f1_ f2_ f3_; have f4_ := f1_.symm; have f5_ := f3_.symm; clear f1_ f2_ f3_; subst f4_; subst f5_))
        have p130 : 0 ≤ (x6_2 : Int) := odt_
        have q130 : x6_2 < (x3_1.length : Int) := odt_
        obtain ⟨ad130, e130, hx130_0, hx130_1⟩ := at_T38 (Kd.R_reads' HO_3.out).2.2 x6_2 p130 q130
        cases e130
        replace p130 := eq_true p130
        replace q130 := eq_true q130
        refine start_ (n := 12) (S := fun w' => w'.cell? ⟨gb129, 0, none⟩ = some (.int .i64 ((rd_T38 l0 x10_1).f0)) ∧ w'.cell? ⟨gb129, 1, none⟩ = some (.int .i64 ((rd_T38 l0 x10_1).f1)) ∧ w'.cell? (ad130.add ((x6_2).toNat * 2)) = some (.int .i64 ((rd_T38 x3_1 x6_2).f0)) ∧ w'.cell? ⟨(ad130.add ((x6_2).toNat * 2)).block, (ad130.add ((x6_2).toNat * 2)).off + 1, none⟩ = some (.int .i64 ((rd_T38 x3_1 x6_2).f1))) (ds := []) #[false, false, false, false, false, false, false, false, false, false, false, false] (by kernel_rfl) rfl rfl ⟨(blk_cell BK129.out 0).trans rfl, (blk_cell BK129.out 1).trans rfl, hx130_0, hx130_1⟩ (fun hHeld => ?_); refine with_tabW spec_poSorted.tab6 spec_poSorted.bits6 (fun HT_ HW_ => ?_)
        generalize wr.drew = w11 at HO_3 BK129 HB hx130_0 hx130_1 hHeld ⊢
        refine pux_ 0 14 HT_ ?_
        refine pux_ 1 15 HT_ ?_
        refine pux_ 2 16 HT_ ?_
        refine pux_ 3 17 HT_ ?_
        refine pux_ 4 18 HT_ ?_
        refine pux_ 5 19 HT_ ?_
        refine pux_ 6 20 HT_ ?_
        refine pux_ 7 21 HT_ ?_
        refine tak_ 8 22 HT_ HW_ hHeld ?_
        refine tak_ 9 23 HT_ HW_ hHeld ?_
        refine oner_ 10 24 HT_ (fun K hK => ?_)
        refine goes_ Tryz.func36 (by kernel_rfl) rfl #[.agg #[.int .i64 ((rd_T38 x3_1 x6_2).f0), .int .i64 ((rd_T38 x3_1 x6_2).f1)], .agg #[.int .i64 ((rd_T38 l0 x10_1).f0), .int .i64 ((rd_T38 l0 x10_1).f1)]] (by rfl) rfl rfl amp_ ?_
        with_reducible refine (spec_poLess.calls ((rd_T38 x3_1 x6_2).f0) ((rd_T38 x3_1 x6_2).f1) ((rd_T38 l0 x10_1).f0) ((rd_T38 l0 x10_1).f1) true _ A9.out).mono ?_
        rintro e w13 ⟨rfl, hb⟩
        have HS2_ := (hb.cell (World.block_lt_of_cell? _ _ (hHeld.2.2.1))).trans (hHeld.2.2.1)
        have HS3_ := (hb.cell (World.block_lt_of_cell? _ _ (hHeld.2.2.2))).trans (hHeld.2.2.2)
        refine ⟨_, rfl, ?_⟩
        replace HO_3 := Aside0.mk (Kd.R_below (ra_ HO_3.out) hb)
        replace BK129 := bb_ BK129 hb
        replace HB := Aside0.mk (below_step bls_ hb)
        (try clear hb)
        (try clear hb2)
        (try clear hk)
        (try clear hi)
        refine hK.out _ _ ⟨(blk_cell BK129.out 0).trans rfl, (blk_cell BK129.out 1).trans rfl, HS2_, HS3_⟩ (fun hHeld => ?_)
        clear hK K
        refine nor_ 24 ?_
        refine pux_ 11 25 HT_ ?_
        refine done_ (done_of HT_.out (by kernel_rfl)) ?_
        try go_wp2
        go_roundg k2
        case measure => have := HK1.out; have := HK2.out; omega
        case rel => exact ⟨(wrap64 (x6_2 + 1)), rsd_, H', ⟨by have := HK1.out; have := HK2.out; omega⟩, ⟨ra_ HO_3.out⟩, ⟨bk_ BK129.out⟩, ⟨bls_⟩⟩
       ·replace c10 := Bool.eq_false_iff.mpr c10
        subst c10
        replace H : ((some (([] : List (S38)) : List (S38))).bind fun y132 => (if x6_2 ≤ (x3_1.length : Int) then ((some (x3_1.take (x6_2 : Int).toNat : List (S38))).bind fun y135 => (if y132.length + y135.length < 8796093022208 then ((some (y132 ++ y135 : List (S38))).bind fun y139 => ((some (([(⟨((rd_T38 l0 x10_1).f0), ((rd_T38 l0 x10_1).f1)⟩ : S38)] : List (S38)) : List (S38))).bind fun y142 => (if y139.length + y142.length < 8796093022208 then ((some (y139 ++ y142 : List (S38))).bind fun y145 => ((some (x3_1.drop (x6_2 : Int).toNat : List (S38))).bind fun y148 => (if y145.length + y148.length < 8796093022208 then (spec_poSorted.l0 k2 (y145 ++ y148) l0 (l0.length : Int) (wrap64 (x10_1 + 1))) else (none)))) else (none)))) else (none))) else (none))) = some r := by rw [if_neg (show ¬ (false = true) by decide)] at H; exact H
        obtain ⟨y132, hy132⟩ : ∃ y_ : List (S38), y_ = (([] : List (S38))) := ⟨_, rfl⟩
        replace H : (if x6_2 ≤ (x3_1.length : Int) then ((some (x3_1.take (x6_2 : Int).toNat : List (S38))).bind fun y135 => (if y132.length + y135.length < 8796093022208 then ((some (y132 ++ y135 : List (S38))).bind fun y139 => ((some (([(⟨((rd_T38 l0 x10_1).f0), ((rd_T38 l0 x10_1).f1)⟩ : S38)] : List (S38)) : List (S38))).bind fun y142 => (if y139.length + y142.length < 8796093022208 then ((some (y139 ++ y142 : List (S38))).bind fun y145 => ((some (x3_1.drop (x6_2 : Int).toNat : List (S38))).bind fun y148 => (if y145.length + y148.length < 8796093022208 then (spec_poSorted.l0 k2 (y145 ++ y148) l0 (l0.length : Int) (wrap64 (x10_1 + 1))) else (none)))) else (none)))) else (none))) else (none)) = some r := hyy_ hy132 H
        have Ny132 := Aside0.mk hy132
        clear hy132
        have c14b0 := eq_true (odt_ : 0 ≤ x6_2)
        by_cases c15 : x6_2 ≤ (x3_1.length : Int)
        case neg=>rw [if_neg c15] at H;exact absurd H (by simp)
        rw [if_pos c15] at H
        have c15b0 := eq_true c15
        have c15b1 : decide (x6_2 ≤ (x3_1.length : Int)) = true := decide_eq_true c15
        clear c15
        obtain ⟨y135, hy135⟩ : ∃ y_ : List (S38), y_ = (x3_1.take (x6_2 : Int).toNat) := ⟨_, rfl⟩
        replace H : (if y132.length + y135.length < 8796093022208 then ((some (y132 ++ y135 : List (S38))).bind fun y139 => ((some (([(⟨((rd_T38 l0 x10_1).f0), ((rd_T38 l0 x10_1).f1)⟩ : S38)] : List (S38)) : List (S38))).bind fun y142 => (if y139.length + y142.length < 8796093022208 then ((some (y139 ++ y142 : List (S38))).bind fun y145 => ((some (x3_1.drop (x6_2 : Int).toNat : List (S38))).bind fun y148 => (if y145.length + y148.length < 8796093022208 then (spec_poSorted.l0 k2 (y145 ++ y148) l0 (l0.length : Int) (wrap64 (x10_1 + 1))) else (none)))) else (none)))) else (none)) = some r := hyy_ hy135 H
        have Ny135 := Aside0.mk hy135
        clear hy135
        by_cases c16 : y132.length + y135.length < 8796093022208
        case neg=>rw [if_neg c16] at H;exact absurd H (by simp)
        rw [if_pos c16] at H
        have LMc16 := Aside0.mk c16
        clear c16
        obtain ⟨y139, hy139⟩ : ∃ y_ : List (S38), y_ = (y132 ++ y135) := ⟨_, rfl⟩
        replace H : ((some (([(⟨((rd_T38 l0 x10_1).f0), ((rd_T38 l0 x10_1).f1)⟩ : S38)] : List (S38)) : List (S38))).bind fun y142 => (if y139.length + y142.length < 8796093022208 then ((some (y139 ++ y142 : List (S38))).bind fun y145 => ((some (x3_1.drop (x6_2 : Int).toNat : List (S38))).bind fun y148 => (if y145.length + y148.length < 8796093022208 then (spec_poSorted.l0 k2 (y145 ++ y148) l0 (l0.length : Int) (wrap64 (x10_1 + 1))) else (none)))) else (none))) = some r := hyy_ hy139 H
        have Ny139 := Aside0.mk hy139
        clear hy139
        obtain ⟨y142, hy142⟩ : ∃ y_ : List (S38), y_ = (([(⟨((rd_T38 l0 x10_1).f0), ((rd_T38 l0 x10_1).f1)⟩ : S38)] : List (S38))) := ⟨_, rfl⟩
        replace H : (if y139.length + y142.length < 8796093022208 then ((some (y139 ++ y142 : List (S38))).bind fun y145 => ((some (x3_1.drop (x6_2 : Int).toNat : List (S38))).bind fun y148 => (if y145.length + y148.length < 8796093022208 then (spec_poSorted.l0 k2 (y145 ++ y148) l0 (l0.length : Int) (wrap64 (x10_1 + 1))) else (none)))) else (none)) = some r := hyy_ hy142 H
        have Ny142 := Aside0.mk hy142
        clear hy142
        by_cases c17 : y139.length + y142.length < 8796093022208
        case neg=>rw [if_neg c17] at H;exact absurd H (by simp)
        rw [if_pos c17] at H
        have LMc17 := Aside0.mk c17
        clear c17
        obtain ⟨y145, hy145⟩ : ∃ y_ : List (S38), y_ = (y139 ++ y142) := ⟨_, rfl⟩
        replace H : ((some (x3_1.drop (x6_2 : Int).toNat : List (S38))).bind fun y148 => (if y145.length + y148.length < 8796093022208 then (spec_poSorted.l0 k2 (y145 ++ y148) l0 (l0.length : Int) (wrap64 (x10_1 + 1))) else (none))) = some r := hyy_ hy145 H
        have Ny145 := Aside0.mk hy145
        clear hy145
        have c18b0 := eq_true (odt_ : 0 ≤ x6_2)
        have c19b0 := eq_true (odt_ : x6_2 ≤ (x3_1.length : Int))
        obtain ⟨y148, hy148⟩ : ∃ y_ : List (S38), y_ = (x3_1.drop (x6_2 : Int).toNat) := ⟨_, rfl⟩
        replace H : (if y145.length + y148.length < 8796093022208 then (spec_poSorted.l0 k2 (y145 ++ y148) l0 (l0.length : Int) (wrap64 (x10_1 + 1))) else (none)) = some r := hyy_ hy148 H
        have Ny148 := Aside0.mk hy148
        clear hy148
        by_cases c20 : y145.length + y148.length < 8796093022208
        case neg=>rw [if_neg c20] at H;exact absurd H (by simp)
        rw [if_pos c20] at H
        have LMc20 := Aside0.mk c20
        clear c20
        obtain ⟨y152, hy152⟩ : ∃ y_ : List (S38), y_ = (y145 ++ y148) := ⟨_, rfl⟩
        replace H : (spec_poSorted.l0 k2 y152 l0 (l0.length : Int) (wrap64 (x10_1 + 1))) = some r := hyy_ hy152 H
        have Ny152 := Aside0.mk hy152
        clear hy152
        have H' := Aside0.mk H
        clear H
        try go_wp2
        replace HO_3 := Aside0.mk (Kd.R_drew HO_3.out)
        replace BK129 := Aside0.mk (blk_drew BK129.out)
        replace HB := Aside0.mk (below_drew1 HB.out)
        obtain ⟨Ao22, co22, eo22⟩ := Kd.R_slice HO_3.out
        (first | subst eo22 | (injection eo22 with f1_ f2_ f3_; have f4_ := f1_.symm; have f5_ := f3_.symm; clear f1_ f2_ f3_; subst f4_; subst f5_))
        have p130 : 0 ≤ (x6_2 : Int) := odt_
        have q130 : x6_2 < (x3_1.length : Int) := odt_
        obtain ⟨ad130, e130, hx130_0, hx130_1⟩ := at_T38 (Kd.R_reads' HO_3.out).2.2 x6_2 p130 q130
        cases e130
        replace p130 := eq_true p130
        replace q130 := eq_true q130
        refine start_ (n := 12) (S := fun w' => w'.cell? ⟨gb129, 0, none⟩ = some (.int .i64 ((rd_T38 l0 x10_1).f0)) ∧ w'.cell? ⟨gb129, 1, none⟩ = some (.int .i64 ((rd_T38 l0 x10_1).f1)) ∧ w'.cell? (ad130.add ((x6_2).toNat * 2)) = some (.int .i64 ((rd_T38 x3_1 x6_2).f0)) ∧ w'.cell? ⟨(ad130.add ((x6_2).toNat * 2)).block, (ad130.add ((x6_2).toNat * 2)).off + 1, none⟩ = some (.int .i64 ((rd_T38 x3_1 x6_2).f1))) (ds := []) #[false, false, false, false, false, false, false, false, false, false, false, false] (by kernel_rfl) rfl rfl ⟨(blk_cell BK129.out 0).trans rfl, (blk_cell BK129.out 1).trans rfl, hx130_0, hx130_1⟩ (fun hHeld => ?_); refine with_tabW spec_poSorted.tab6 spec_poSorted.bits6 (fun HT_ HW_ => ?_)
        generalize wr.drew = w21 at HO_3 BK129 HB hx130_0 hx130_1 hHeld ⊢
        refine pux_ 0 14 HT_ ?_
        refine pux_ 1 15 HT_ ?_
        refine pux_ 2 16 HT_ ?_
        refine pux_ 3 17 HT_ ?_
        refine pux_ 4 18 HT_ ?_
        refine pux_ 5 19 HT_ ?_
        refine pux_ 6 20 HT_ ?_
        refine pux_ 7 21 HT_ ?_
        refine tak_ 8 22 HT_ HW_ hHeld ?_
        refine tak_ 9 23 HT_ HW_ hHeld ?_
        refine oner_ 10 24 HT_ (fun K hK => ?_)
        refine goes_ Tryz.func36 (by kernel_rfl) rfl #[.agg #[.int .i64 ((rd_T38 x3_1 x6_2).f0), .int .i64 ((rd_T38 x3_1 x6_2).f1)], .agg #[.int .i64 ((rd_T38 l0 x10_1).f0), .int .i64 ((rd_T38 l0 x10_1).f1)]] (by rfl) rfl rfl amp_ ?_
        with_reducible refine (spec_poLess.calls ((rd_T38 x3_1 x6_2).f0) ((rd_T38 x3_1 x6_2).f1) ((rd_T38 l0 x10_1).f0) ((rd_T38 l0 x10_1).f1) false _ A9.out).mono ?_
        rintro e w23 ⟨rfl, hb⟩
        have HS2_ := (hb.cell (World.block_lt_of_cell? _ _ (hHeld.2.2.1))).trans (hHeld.2.2.1)
        have HS3_ := (hb.cell (World.block_lt_of_cell? _ _ (hHeld.2.2.2))).trans (hHeld.2.2.2)
        refine ⟨_, rfl, ?_⟩
        replace HO_3 := Aside0.mk (Kd.R_below (ra_ HO_3.out) hb)
        replace BK129 := bb_ BK129 hb
        replace HB := Aside0.mk (below_step bls_ hb)
        (try clear hb)
        (try clear hb2)
        (try clear hk)
        (try clear hi)
        refine hK.out _ _ ⟨(blk_cell BK129.out 0).trans rfl, (blk_cell BK129.out 1).trans rfl, HS2_, HS3_⟩ (fun hHeld => ?_)
        clear hK K
        refine nor_ 24 ?_
        refine pux_ 11 25 HT_ ?_
        refine done_ (done_of HT_.out (by kernel_rfl)) ?_
        try go_wp2
        replace HO_3 := Aside0.mk (Kd.R_drew HO_3.out)
        replace BK129 := Aside0.mk (blk_drew BK129.out)
        replace HB := Aside0.mk (below_drew1 HB.out)
        have q25 : (x6_2 : Int) ≤ ((x3_1.length : Int) : Int) := odt_
        obtain ⟨i025, hi025, _, hsz25, _⟩ := info_parts info38
        have hroom25 : x3_1.length ≤ co22 := (Kd.R_reads' HO_3.out).2.1
        have hC25 : Kd.C k38 _ (some ad130) x3_1.length x3_1 := (Kd.R_reads' HO_3.out).2.2
        have hcut25 := cut_to (P := Tryz.prog) 27 38 .i64 Tryz.underlying27 hi025 (some ad130) x3_1.length co22 x6_2 (odt_) q25 hroom25
        have hr25 := Kd.C_take (m := (x6_2 : Int).toNat) hC25 (by omega)
        have hy25 : y135.length = (x6_2 : Int).toNat := (by rw [Ny135.out, List.length_take]; omega)
        rw [← Ny135.out] at hr25
        rw [← hy25] at hcut25
        have HR138 := Aside0.mk hr25
        have HC138 := Aside0.mk (show y135.length ≤ co22 from by omega)
        clear hr25 hC25 hroom25 hi025 hsz25
        have KY25 := Aside0.mk hy25
        clear hy25
        have KL25 := Aside0.mk (show (x6_2 : Int).toNat ≤ x3_1.length from by omega)
        replace q25 := eq_true q25
        refine start_ (n := 9) (S := fun w' => w'.cell? ⟨gb129, 0, none⟩ = some (.int .i64 ((rd_T38 l0 x10_1).f0)) ∧ w'.cell? ⟨gb129, 1, none⟩ = some (.int .i64 ((rd_T38 l0 x10_1).f1))) (ds := []) #[false, false, false, false, false, false, false, false, false] (by kernel_rfl) rfl rfl ⟨(blk_cell BK129.out 0).trans rfl, (blk_cell BK129.out 1).trans rfl⟩ (fun hHeld => ?_); refine with_tabW spec_poSorted.tab8 spec_poSorted.bits8 (fun HT_ HW_ => ?_)
        generalize w23.drew = w24 at HO_3 BK129 HB HR138 hHeld ⊢
        refine pux_ 1 29 HT_ ?_
        refine pux_ 2 30 HT_ ?_
        refine pux_ 3 31 HT_ ?_
        refine tak_ 5 33 HT_ HW_ hHeld ?_
        refine join_ (σ := Value × Value × Value) 2 #[true, true, true, true, true, true, true, false, false] (fun s_ => [(28, s_.1), (32, s_.2.1), (34, s_.2.2)]) (fun s_ w' => (w'.cell? ⟨gb129, 0, none⟩ = some (.int .i64 ((rd_T38 l0 x10_1).f0)) ∧ w'.cell? ⟨gb129, 1, none⟩ = some (.int .i64 ((rd_T38 l0 x10_1).f1))) ∧ (Kd.R k38 38 w' w.heap.size (fun k_ => some k_ ≠ (s_.2.2 : Value).ownBlock ∧ some k_ ≠ (.slice (some ad130) x3_1.length co22 : Value).ownBlock ∧ k_ ≠ gb129) s_.2.1 y139) ∧ (Kd.R k38 38 w' w.heap.size (fun k_ => some k_ ≠ (s_.2.1 : Value).ownBlock ∧ some k_ ≠ (.slice (some ad130) x3_1.length co22 : Value).ownBlock ∧ k_ ≠ gb129) s_.2.2 y142) ∧ (Kd.R k38 38 w' w.heap.size (fun k_ => some k_ ≠ (s_.2.1 : Value).ownBlock ∧ some k_ ≠ (s_.2.2 : Value).ownBlock ∧ k_ ≠ gb129) (.slice (some ad130) x3_1.length co22) x3_1) ∧ (w'.heap[gb129]? = some (.cells #[.int .i64 ((rd_T38 l0 x10_1).f0), .int .i64 ((rd_T38 l0 x10_1).f1)] 38 (0, 0))) ∧ (Below w.heap.size w w')) ?_ ?_
        rotate_left
        ·intro hCont
         refine two_ (i := 0) (j := 6) (Ni := some 28) (Nj := some 34) #[true, true, true, true, false, true, false, false, false] #[false, true, true, true, false, true, true, false, false] rfl rfl rfl rfl (two_of HT_.out (by kernel_rfl)) (by decide) (by decide) (fun K hK => ?_) (fun K hK => ?_)
         ·skip
          refine Kd.R_lit_step k38 _ 38 ?hg (N := 28) ?hd (xs := ([] : List (S38))) (inner := []) (ok := fun _ => True) (okp := fun _ => True) ?hr ?hp (fun _ hk => hk) trivial (Below.refl _ _) (Nat.le_refl _) (by simp) ?_; (case hd => rfl); (case hg => rfl); (case hr => first | (go_simp; done) | (go_simp; rfl)); (case hp => exact (Reps.none _ _))
          intro v133 w26 ho27 hb hg_ hnew_
          clear hg_ hnew_
          (first | rw [← Ny132.out] at ho27 | (simp only [Int.reduceToNat] at ho27; rw [← Ny132.out] at ho27))
          have HO134 := Aside0.mk (Kd.R_lower (Kd.R_newB (Kd.R_new' ho27 (Kd.R_lt (ra_ HO_3.out))) (g := gb129) (o := .cells #[.int .i64 ((rd_T38 l0 x10_1).f0), .int .i64 ((rd_T38 l0 x10_1).f1)] 38 (0, 0)) (bk_ BK129.out)) (below_size bls_))
          replace HO_3 := Aside0.mk (Kd.R_elder' (ra_ HO_3.out) (Kd.R_base ho27) hb)
          replace BK129 := bb_ BK129 hb
          replace HR138 := Aside0.mk (Kd.C_below (by repeat (first | (with_reducible exact HR138.out) | (with_reducible refine Kd.C_alloc ?_ _) | (with_reducible refine Kd.C_drewN ?_ _) | (with_reducible refine Kd.C_drew ?_) | exact HR138.out)) hb)
          replace HB := Aside0.mk (below_step bls_ hb)
          clear hb ho27
          refine hK.out _ _ ⟨(blk_cell BK129.out 0).trans rfl, (blk_cell BK129.out 1).trans rfl⟩ (fun hHeld => ?_)
          clear hK K
          refine nor_ 28 ?_
          refine two_ (i := 4) (j := 6) (Ni := some 32) (Nj := some 34) #[true, true, true, true, true, true, false, false, false] #[true, true, true, true, false, true, true, false, false] rfl rfl rfl rfl (two_of HT_.out (by kernel_rfl)) (by decide) (by decide) (fun K hK => ?_) (fun K hK => ?_)
          ·skip
           refine Kd.R_append_rows_step k38 (w0 := w) w.heap.size (by rfl) (.tmp 28) (.tmp 31) 27 38 (.agg #[(.int .i64 0), (.int .i64 0)]) 16 rfl Tryz.underlying27 info38 rfl (by decide) (by omega) v133 y132 y135 _ _ _ (fun k_ => some k_ ≠ (.slice (some ad130) x3_1.length co22 : Value).ownBlock ∧ k_ ≠ gb129) (fun _ => False) rfl rfl ?aO ?aR (fun _ _ h => h) (fun _ h => h.elim) ?aF ?aB ?aS ?aL ?_
           (case aR => repeat (first | exact (by repeat (first | (with_reducible exact HR138.out) | (with_reducible refine Kd.C_alloc ?_ _) | (with_reducible refine Kd.C_drewN ?_ _) | (with_reducible refine Kd.C_drew ?_) | exact HR138.out)) | (with_reducible refine Kd.C_alloc ?_ _) | (with_reducible refine Kd.C_drewN ?_ _) | (with_reducible refine Kd.C_drew ?_)))
           (case aB => exact bls_)
           (case aF => exact (fun k_ hk => ⟨Kd.fresh' (Kd.R_lt (ra_ HO_3.out)) k_ hk, Kd.freshB (g := gb129) (o := .cells #[.int .i64 ((rd_T38 l0 x10_1).f0), .int .i64 ((rd_T38 l0 x10_1).f1)] 38 (0, 0)) (bk_ BK129.out) k_ hk⟩))
           (case aO => exact (by (with_reducible repeat (first | apply Kd.R_alloc | apply Kd.R_drewN | apply Kd.R_drew)); exact Kd.R_mono HO134.out (fun _ hk => ⟨hk.1.2, hk.2⟩)))
           (case aS => exact (below_size bls_))
           (case aL => have := LMc16.out; omega)
           intro v140 w28 ho hb hg hat
           rw [← Ny139.out] at ho
           have HO141 := Aside0.mk (ho)
           replace BK129 := Aside0.mk (blk_grown (g := gb129) (o := .cells #[.int .i64 ((rd_T38 l0 x10_1).f0), .int .i64 ((rd_T38 l0 x10_1).f1)] 38 (0, 0)) (bk_ BK129.out) hg (Kd.R_away HO134.out (fun _ hk => hk.2)))
           replace HB := Aside0.mk (hb)
           replace HR138 := Aside0.mk ((show Kd.C k38 w28 (some ad130) y135.length y135 from by rw [Ny135.out]; exact Kd.C_take (m := (x6_2 : Int).toNat) ((Kd.R_reads' (Kd.R_after (ok := (fun k_ => k_ ≠ gb129)) (ra_ HO_3.out) hg hat)).2.2) KL25.out))
           replace HO_3 := Aside0.mk (Kd.R_after (ok := (fun k_ => k_ ≠ gb129)) (ra_ HO_3.out) hg hat)
           clear HO134
           clear ho hb hg hat
           refine hK.out _ _ ⟨(blk_cell BK129.out 0).trans rfl, (blk_cell BK129.out 1).trans rfl⟩ (fun hHeld => ?_)
           clear hK K
           refine nor_ 32 ?_
           refine oner_ 6 34 HT_ (fun K hK => ?_)
           refine Kd.R_lit_step k38 _ 38 ?hg (N := 34) ?hd (xs := ([(⟨((rd_T38 l0 x10_1).f0), ((rd_T38 l0 x10_1).f1)⟩ : S38)] : List (S38))) (inner := [.int .i64 ((rd_T38 l0 x10_1).f0), .int .i64 ((rd_T38 l0 x10_1).f1)]) (ok := fun _ => True) (okp := fun _ => True) ?hr ?hp (fun _ hk => hk) trivial (Below.refl _ _) (Nat.le_refl _) (by simp) ?_; (case hd => rfl); (case hg => rfl); (case hr => first | (go_simp; done) | (go_simp; rfl)); (case hp => exact (Reps.c2 (show Kd.M k38 _ _ _ (⟨((rd_T38 l0 x10_1).f0), ((rd_T38 l0 x10_1).f1)⟩ : S38) [.int .i64 ((rd_T38 l0 x10_1).f0), .int .i64 ((rd_T38 l0 x10_1).f1)] from (k38_mkM _ _ _ (⟨((rd_T38 l0 x10_1).f0), ((rd_T38 l0 x10_1).f1)⟩ : S38) )) (Reps.none _ _)))
           intro v143 w29 ho30 hb hg_ hnew_
           clear hg_ hnew_
           (first | rw [← Ny142.out] at ho30 | (simp only [Int.reduceToNat] at ho30; rw [← Ny142.out] at ho30))
           have HO144 := Aside0.mk (Kd.R_lower (Kd.R_newB (Kd.R_new' (Kd.R_new' ho30 (Kd.R_lt (ra_ HO_3.out))) (Kd.R_lt (ra_ HO141.out))) (g := gb129) (o := .cells #[.int .i64 ((rd_T38 l0 x10_1).f0), .int .i64 ((rd_T38 l0 x10_1).f1)] 38 (0, 0)) (bk_ BK129.out)) (below_size bls_))
           replace HO_3 := Aside0.mk (Kd.R_elder' (ra_ HO_3.out) (Kd.R_base ho30) hb)
           replace HO141 := Aside0.mk (Kd.R_elder' (ra_ HO141.out) (Kd.R_base ho30) hb)
           replace BK129 := bb_ BK129 hb
           replace HR138 := Aside0.mk (Kd.C_below (by repeat (first | (with_reducible exact HR138.out) | (with_reducible refine Kd.C_alloc ?_ _) | (with_reducible refine Kd.C_drewN ?_ _) | (with_reducible refine Kd.C_drew ?_) | exact HR138.out)) hb)
           replace HB := Aside0.mk (below_step bls_ hb)
           clear hb ho30
           refine hK.out _ _ ⟨(blk_cell BK129.out 0).trans rfl, (blk_cell BK129.out 1).trans rfl⟩ (fun hHeld => ?_)
           clear hK K
           refine nor_ 34 ?_
           exact norm_ (by simp only [putAll, Act.put, List.setIfInBounds_toArray, List.set_cons_zero, List.set_cons_succ]) (hCont (v133, v140, v143) _ ⟨hHeld, (by (with_reducible repeat (first | apply Kd.R_alloc | apply Kd.R_drewN | apply Kd.R_drew)); exact Kd.R_mono HO141.out (fun _ hk => ⟨hk.2, ⟨hk.1.1, hk.1.2⟩⟩)), (by (with_reducible repeat (first | apply Kd.R_alloc | apply Kd.R_drewN | apply Kd.R_drew)); exact Kd.R_mono HO144.out (fun _ hk => ⟨hk.1.2, ⟨hk.1.1.2, hk.2⟩⟩)), (by (with_reducible repeat (first | apply Kd.R_alloc | apply Kd.R_drewN | apply Kd.R_drew)); exact Kd.R_mono HO_3.out (fun _ hk => ⟨hk.1.2, ⟨hk.2, hk.1.1⟩⟩)), (bk_ BK129.out), bls_⟩)
          ·skip
           refine Kd.R_lit_step k38 _ 38 ?hg (N := 34) ?hd (xs := ([(⟨((rd_T38 l0 x10_1).f0), ((rd_T38 l0 x10_1).f1)⟩ : S38)] : List (S38))) (inner := [.int .i64 ((rd_T38 l0 x10_1).f0), .int .i64 ((rd_T38 l0 x10_1).f1)]) (ok := fun _ => True) (okp := fun _ => True) ?hr ?hp (fun _ hk => hk) trivial (Below.refl _ _) (Nat.le_refl _) (by simp) ?_; (case hd => rfl); (case hg => rfl); (case hr => first | (go_simp; done) | (go_simp; rfl)); (case hp => exact (Reps.c2 (show Kd.M k38 _ _ _ (⟨((rd_T38 l0 x10_1).f0), ((rd_T38 l0 x10_1).f1)⟩ : S38) [.int .i64 ((rd_T38 l0 x10_1).f0), .int .i64 ((rd_T38 l0 x10_1).f1)] from (k38_mkM _ _ _ (⟨((rd_T38 l0 x10_1).f0), ((rd_T38 l0 x10_1).f1)⟩ : S38) )) (Reps.none _ _)))
           intro v143 w28 ho29 hb hg_ hnew_
           clear hg_ hnew_
           (first | rw [← Ny142.out] at ho29 | (simp only [Int.reduceToNat] at ho29; rw [← Ny142.out] at ho29))
           have HO144 := Aside0.mk (Kd.R_lower (Kd.R_newB (Kd.R_new' (Kd.R_new' ho29 (Kd.R_lt (ra_ HO_3.out))) (Kd.R_lt (ra_ HO134.out))) (g := gb129) (o := .cells #[.int .i64 ((rd_T38 l0 x10_1).f0), .int .i64 ((rd_T38 l0 x10_1).f1)] 38 (0, 0)) (bk_ BK129.out)) (below_size bls_))
           replace HO_3 := Aside0.mk (Kd.R_elder' (ra_ HO_3.out) (Kd.R_base ho29) hb)
           replace HO134 := Aside0.mk (Kd.R_elder' (ra_ HO134.out) (Kd.R_base ho29) hb)
           replace BK129 := bb_ BK129 hb
           replace HR138 := Aside0.mk (Kd.C_below (by repeat (first | (with_reducible exact HR138.out) | (with_reducible refine Kd.C_alloc ?_ _) | (with_reducible refine Kd.C_drewN ?_ _) | (with_reducible refine Kd.C_drew ?_) | exact HR138.out)) hb)
           replace HB := Aside0.mk (below_step bls_ hb)
           clear hb ho29
           refine hK.out _ _ ⟨(blk_cell BK129.out 0).trans rfl, (blk_cell BK129.out 1).trans rfl⟩ (fun hHeld => ?_)
           clear hK K
           refine nor_ 34 ?_
           refine oner_ 4 32 HT_ (fun K hK => ?_)
           refine Kd.R_append_rows_step k38 (w0 := w) w.heap.size (by rfl) (.tmp 28) (.tmp 31) 27 38 (.agg #[(.int .i64 0), (.int .i64 0)]) 16 rfl Tryz.underlying27 info38 rfl (by decide) (by omega) v133 y132 y135 _ _ _ (fun k_ => some k_ ≠ (.slice (some ad130) x3_1.length co22 : Value).ownBlock ∧ some k_ ≠ (v143 : Value).ownBlock ∧ k_ ≠ gb129) (fun _ => False) rfl rfl ?aO ?aR (fun _ _ h => h) (fun _ h => h.elim) ?aF ?aB ?aS ?aL ?_
           (case aR => repeat (first | exact (by repeat (first | (with_reducible exact HR138.out) | (with_reducible refine Kd.C_alloc ?_ _) | (with_reducible refine Kd.C_drewN ?_ _) | (with_reducible refine Kd.C_drew ?_) | exact HR138.out)) | (with_reducible refine Kd.C_alloc ?_ _) | (with_reducible refine Kd.C_drewN ?_ _) | (with_reducible refine Kd.C_drew ?_)))
           (case aB => exact bls_)
           (case aF => exact (fun k_ hk => ⟨Kd.fresh' (Kd.R_lt (ra_ HO_3.out)) k_ hk, Kd.fresh' (Kd.R_lt (ra_ HO144.out)) k_ hk, Kd.freshB (g := gb129) (o := .cells #[.int .i64 ((rd_T38 l0 x10_1).f0), .int .i64 ((rd_T38 l0 x10_1).f1)] 38 (0, 0)) (bk_ BK129.out) k_ hk⟩))
           (case aO => exact (by (with_reducible repeat (first | apply Kd.R_alloc | apply Kd.R_drewN | apply Kd.R_drew)); exact Kd.R_mono HO134.out (fun _ hk => ⟨hk.1.1.2, ⟨hk.2, hk.1.2⟩⟩)))
           (case aS => exact (below_size bls_))
           (case aL => have := LMc16.out; omega)
           intro v140 w30 ho hb hg hat
           rw [← Ny139.out] at ho
           have HO141 := Aside0.mk (ho)
           replace BK129 := Aside0.mk (blk_grown (g := gb129) (o := .cells #[.int .i64 ((rd_T38 l0 x10_1).f0), .int .i64 ((rd_T38 l0 x10_1).f1)] 38 (0, 0)) (bk_ BK129.out) hg (Kd.R_away HO134.out (fun _ hk => hk.1.2)))
           replace HO144 := Aside0.mk (Kd.R_after (ok := (fun k_ => some k_ ≠ (.slice (some ad130) x3_1.length co22 : Value).ownBlock ∧ k_ ≠ gb129)) (by (with_reducible repeat (first | apply Kd.R_alloc | apply Kd.R_drewN | apply Kd.R_drew)); exact Kd.R_mono HO144.out (fun _ hk => ⟨⟨hk.1.1.2, hk.2⟩, hk.1.2⟩)) hg hat)
           replace HB := Aside0.mk (hb)
           replace HR138 := Aside0.mk ((show Kd.C k38 w30 (some ad130) y135.length y135 from by rw [Ny135.out]; exact Kd.C_take (m := (x6_2 : Int).toNat) ((Kd.R_reads' (Kd.R_after (ok := (fun k_ => some k_ ≠ (v143 : Value).ownBlock ∧ k_ ≠ gb129)) (by (with_reducible repeat (first | apply Kd.R_alloc | apply Kd.R_drewN | apply Kd.R_drew)); exact Kd.R_mono HO_3.out (fun _ hk => ⟨⟨hk.2, hk.1.1⟩, hk.1.2⟩)) hg hat)).2.2) KL25.out))
           replace HO_3 := Aside0.mk (Kd.R_after (ok := (fun k_ => some k_ ≠ (v143 : Value).ownBlock ∧ k_ ≠ gb129)) (by (with_reducible repeat (first | apply Kd.R_alloc | apply Kd.R_drewN | apply Kd.R_drew)); exact Kd.R_mono HO_3.out (fun _ hk => ⟨⟨hk.2, hk.1.1⟩, hk.1.2⟩)) hg hat)
           clear HO134
           clear ho hb hg hat
           refine hK.out _ _ ⟨(blk_cell BK129.out 0).trans rfl, (blk_cell BK129.out 1).trans rfl⟩ (fun hHeld => ?_)
           clear hK K
           refine nor_ 32 ?_
           exact norm_ (by simp only [putAll, Act.put, List.setIfInBounds_toArray, List.set_cons_zero, List.set_cons_succ]) (hCont (v133, v140, v143) _ ⟨hHeld, (by (with_reducible repeat (first | apply Kd.R_alloc | apply Kd.R_drewN | apply Kd.R_drew)); exact Kd.R_mono HO141.out (fun _ hk => ⟨hk.2.1, ⟨hk.1, hk.2.2⟩⟩)), (by (with_reducible repeat (first | apply Kd.R_alloc | apply Kd.R_drewN | apply Kd.R_drew)); exact Kd.R_mono HO144.out (fun _ hk => ⟨hk.2, ⟨hk.1.1, hk.1.2⟩⟩)), (by (with_reducible repeat (first | apply Kd.R_alloc | apply Kd.R_drewN | apply Kd.R_drew)); exact Kd.R_mono HO_3.out (fun _ hk => ⟨hk.2, ⟨hk.1.1, hk.1.2⟩⟩)), (bk_ BK129.out), bls_⟩)
         ·skip
          refine Kd.R_lit_step k38 _ 38 ?hg (N := 34) ?hd (xs := ([(⟨((rd_T38 l0 x10_1).f0), ((rd_T38 l0 x10_1).f1)⟩ : S38)] : List (S38))) (inner := [.int .i64 ((rd_T38 l0 x10_1).f0), .int .i64 ((rd_T38 l0 x10_1).f1)]) (ok := fun _ => True) (okp := fun _ => True) ?hr ?hp (fun _ hk => hk) trivial (Below.refl _ _) (Nat.le_refl _) (by simp) ?_; (case hd => rfl); (case hg => rfl); (case hr => first | (go_simp; done) | (go_simp; rfl)); (case hp => exact (Reps.c2 (show Kd.M k38 _ _ _ (⟨((rd_T38 l0 x10_1).f0), ((rd_T38 l0 x10_1).f1)⟩ : S38) [.int .i64 ((rd_T38 l0 x10_1).f0), .int .i64 ((rd_T38 l0 x10_1).f1)] from (k38_mkM _ _ _ (⟨((rd_T38 l0 x10_1).f0), ((rd_T38 l0 x10_1).f1)⟩ : S38) )) (Reps.none _ _)))
          intro v143 w26 ho27 hb hg_ hnew_
          clear hg_ hnew_
          (first | rw [← Ny142.out] at ho27 | (simp only [Int.reduceToNat] at ho27; rw [← Ny142.out] at ho27))
          have HO144 := Aside0.mk (Kd.R_lower (Kd.R_newB (Kd.R_new' ho27 (Kd.R_lt (ra_ HO_3.out))) (g := gb129) (o := .cells #[.int .i64 ((rd_T38 l0 x10_1).f0), .int .i64 ((rd_T38 l0 x10_1).f1)] 38 (0, 0)) (bk_ BK129.out)) (below_size bls_))
          replace HO_3 := Aside0.mk (Kd.R_elder' (ra_ HO_3.out) (Kd.R_base ho27) hb)
          replace BK129 := bb_ BK129 hb
          replace HR138 := Aside0.mk (Kd.C_below (by repeat (first | (with_reducible exact HR138.out) | (with_reducible refine Kd.C_alloc ?_ _) | (with_reducible refine Kd.C_drewN ?_ _) | (with_reducible refine Kd.C_drew ?_) | exact HR138.out)) hb)
          replace HB := Aside0.mk (below_step bls_ hb)
          clear hb ho27
          refine hK.out _ _ ⟨(blk_cell BK129.out 0).trans rfl, (blk_cell BK129.out 1).trans rfl⟩ (fun hHeld => ?_)
          clear hK K
          refine nor_ 34 ?_
          refine oner_ 0 28 HT_ (fun K hK => ?_)
          refine Kd.R_lit_step k38 _ 38 ?hg (N := 28) ?hd (xs := ([] : List (S38))) (inner := []) (ok := fun _ => True) (okp := fun _ => True) ?hr ?hp (fun _ hk => hk) trivial (Below.refl _ _) (Nat.le_refl _) (by simp) ?_; (case hd => rfl); (case hg => rfl); (case hr => first | (go_simp; done) | (go_simp; rfl)); (case hp => exact (Reps.none _ _))
          intro v133 w28 ho29 hb hg_ hnew_
          clear hg_ hnew_
          (first | rw [← Ny132.out] at ho29 | (simp only [Int.reduceToNat] at ho29; rw [← Ny132.out] at ho29))
          have HO134 := Aside0.mk (Kd.R_lower (Kd.R_newB (Kd.R_new' (Kd.R_new' ho29 (Kd.R_lt (ra_ HO_3.out))) (Kd.R_lt (ra_ HO144.out))) (g := gb129) (o := .cells #[.int .i64 ((rd_T38 l0 x10_1).f0), .int .i64 ((rd_T38 l0 x10_1).f1)] 38 (0, 0)) (bk_ BK129.out)) (below_size bls_))
          replace HO_3 := Aside0.mk (Kd.R_elder' (ra_ HO_3.out) (Kd.R_base ho29) hb)
          replace HO144 := Aside0.mk (Kd.R_elder' (ra_ HO144.out) (Kd.R_base ho29) hb)
          replace BK129 := bb_ BK129 hb
          replace HR138 := Aside0.mk (Kd.C_below (by repeat (first | (with_reducible exact HR138.out) | (with_reducible refine Kd.C_alloc ?_ _) | (with_reducible refine Kd.C_drewN ?_ _) | (with_reducible refine Kd.C_drew ?_) | exact HR138.out)) hb)
          replace HB := Aside0.mk (below_step bls_ hb)
          clear hb ho29
          refine hK.out _ _ ⟨(blk_cell BK129.out 0).trans rfl, (blk_cell BK129.out 1).trans rfl⟩ (fun hHeld => ?_)
          clear hK K
          refine nor_ 28 ?_
          refine oner_ 4 32 HT_ (fun K hK => ?_)
          refine Kd.R_append_rows_step k38 (w0 := w) w.heap.size (by rfl) (.tmp 28) (.tmp 31) 27 38 (.agg #[(.int .i64 0), (.int .i64 0)]) 16 rfl Tryz.underlying27 info38 rfl (by decide) (by omega) v133 y132 y135 _ _ _ (fun k_ => some k_ ≠ (.slice (some ad130) x3_1.length co22 : Value).ownBlock ∧ some k_ ≠ (v143 : Value).ownBlock ∧ k_ ≠ gb129) (fun _ => False) rfl rfl ?aO ?aR (fun _ _ h => h) (fun _ h => h.elim) ?aF ?aB ?aS ?aL ?_
          (case aR => repeat (first | exact (by repeat (first | (with_reducible exact HR138.out) | (with_reducible refine Kd.C_alloc ?_ _) | (with_reducible refine Kd.C_drewN ?_ _) | (with_reducible refine Kd.C_drew ?_) | exact HR138.out)) | (with_reducible refine Kd.C_alloc ?_ _) | (with_reducible refine Kd.C_drewN ?_ _) | (with_reducible refine Kd.C_drew ?_)))
          (case aB => exact bls_)
          (case aF => exact (fun k_ hk => ⟨Kd.fresh' (Kd.R_lt (ra_ HO_3.out)) k_ hk, Kd.fresh' (Kd.R_lt (ra_ HO144.out)) k_ hk, Kd.freshB (g := gb129) (o := .cells #[.int .i64 ((rd_T38 l0 x10_1).f0), .int .i64 ((rd_T38 l0 x10_1).f1)] 38 (0, 0)) (bk_ BK129.out) k_ hk⟩))
          (case aO => exact (by (with_reducible repeat (first | apply Kd.R_alloc | apply Kd.R_drewN | apply Kd.R_drew)); exact Kd.R_mono HO134.out (fun _ hk => ⟨hk.1.1.2, ⟨hk.1.2, hk.2⟩⟩)))
          (case aS => exact (below_size bls_))
          (case aL => have := LMc16.out; omega)
          intro v140 w30 ho hb hg hat
          rw [← Ny139.out] at ho
          have HO141 := Aside0.mk (ho)
          replace BK129 := Aside0.mk (blk_grown (g := gb129) (o := .cells #[.int .i64 ((rd_T38 l0 x10_1).f0), .int .i64 ((rd_T38 l0 x10_1).f1)] 38 (0, 0)) (bk_ BK129.out) hg (Kd.R_away HO134.out (fun _ hk => hk.2)))
          replace HO144 := Aside0.mk (Kd.R_after (ok := (fun k_ => some k_ ≠ (.slice (some ad130) x3_1.length co22 : Value).ownBlock ∧ k_ ≠ gb129)) (by (with_reducible repeat (first | apply Kd.R_alloc | apply Kd.R_drewN | apply Kd.R_drew)); exact Kd.R_mono HO144.out (fun _ hk => ⟨⟨hk.1.1.2, hk.1.2⟩, hk.2⟩)) hg hat)
          replace HB := Aside0.mk (hb)
          replace HR138 := Aside0.mk ((show Kd.C k38 w30 (some ad130) y135.length y135 from by rw [Ny135.out]; exact Kd.C_take (m := (x6_2 : Int).toNat) ((Kd.R_reads' (Kd.R_after (ok := (fun k_ => some k_ ≠ (v143 : Value).ownBlock ∧ k_ ≠ gb129)) (by (with_reducible repeat (first | apply Kd.R_alloc | apply Kd.R_drewN | apply Kd.R_drew)); exact Kd.R_mono HO_3.out (fun _ hk => ⟨⟨hk.1.2, hk.1.1⟩, hk.2⟩)) hg hat)).2.2) KL25.out))
          replace HO_3 := Aside0.mk (Kd.R_after (ok := (fun k_ => some k_ ≠ (v143 : Value).ownBlock ∧ k_ ≠ gb129)) (by (with_reducible repeat (first | apply Kd.R_alloc | apply Kd.R_drewN | apply Kd.R_drew)); exact Kd.R_mono HO_3.out (fun _ hk => ⟨⟨hk.1.2, hk.1.1⟩, hk.2⟩)) hg hat)
          clear HO134
          clear ho hb hg hat
          refine hK.out _ _ ⟨(blk_cell BK129.out 0).trans rfl, (blk_cell BK129.out 1).trans rfl⟩ (fun hHeld => ?_)
          clear hK K
          refine nor_ 32 ?_
          exact norm_ (by simp only [putAll, Act.put, List.setIfInBounds_toArray, List.set_cons_zero, List.set_cons_succ]) (hCont (v133, v140, v143) _ ⟨hHeld, (by (with_reducible repeat (first | apply Kd.R_alloc | apply Kd.R_drewN | apply Kd.R_drew)); exact Kd.R_mono HO141.out (fun _ hk => ⟨hk.2.1, ⟨hk.1, hk.2.2⟩⟩)), (by (with_reducible repeat (first | apply Kd.R_alloc | apply Kd.R_drewN | apply Kd.R_drew)); exact Kd.R_mono HO144.out (fun _ hk => ⟨hk.2, ⟨hk.1.1, hk.1.2⟩⟩)), (by (with_reducible repeat (first | apply Kd.R_alloc | apply Kd.R_drewN | apply Kd.R_drew)); exact Kd.R_mono HO_3.out (fun _ hk => ⟨hk.2, ⟨hk.1.1, hk.1.2⟩⟩)), (bk_ BK129.out), bls_⟩)
        rintro ⟨v133, v140, v143⟩ w31 ⟨hS_, h0_, h1_, h2_, h3_, h4_⟩
        have HO141 : Aside0 (Kd.R k38 38 w31 w.heap.size (fun k_ => some k_ ≠ (v143 : Value).ownBlock ∧ some k_ ≠ (.slice (some ad130) x3_1.length co22 : Value).ownBlock ∧ k_ ≠ gb129) v140 y139) := ⟨h0_⟩
        have HO144 : Aside0 (Kd.R k38 38 w31 w.heap.size (fun k_ => some k_ ≠ (v140 : Value).ownBlock ∧ some k_ ≠ (.slice (some ad130) x3_1.length co22 : Value).ownBlock ∧ k_ ≠ gb129) v143 y142) := ⟨h1_⟩
        replace HO_3 : Aside0 (Kd.R k38 38 w31 w.heap.size (fun k_ => some k_ ≠ (v140 : Value).ownBlock ∧ some k_ ≠ (v143 : Value).ownBlock ∧ k_ ≠ gb129) (.slice (some ad130) x3_1.length co22) x3_1) := ⟨h2_⟩
        replace BK129 : Aside0 (w31.heap[gb129]? = some (.cells #[.int .i64 ((rd_T38 l0 x10_1).f0), .int .i64 ((rd_T38 l0 x10_1).f1)] 38 (0, 0))) := ⟨h3_⟩
        replace HB : Aside0 (Below w.heap.size w w31) := ⟨h4_⟩
        clear h0_ h1_ h2_ h3_ h4_
        have hHeld : w31.cell? ⟨gb129, 0, none⟩ = some (.int .i64 ((rd_T38 l0 x10_1).f0)) ∧ w31.cell? ⟨gb129, 1, none⟩ = some (.int .i64 ((rd_T38 l0 x10_1).f1)) := hS_
        obtain ⟨Ao33, co33, eo33⟩ := Kd.R_slice HO144.out
        (first | subst eo33 | (injection eo33 with f1_ f2_ f3_; have f4_ := f1_.symm; have f5_ := f3_.symm; clear f1_ f2_ f3_; subst f4_; subst f5_))
        refine norm_ (a' := ?_) ?_ ?_
        rotate_left
        ·simp only [putAll, Act.put, List.setIfInBounds_toArray, List.set_cons_zero, List.set_cons_succ]
         rfl
        refine oner_ 7 35 HT_ (fun K hK => ?_)
        refine Kd.R_append_rows_step k38 (w0 := w) w.heap.size (by rfl) (.tmp 32) (.tmp 34) 27 38 (.agg #[(.int .i64 0), (.int .i64 0)]) 16 rfl Tryz.underlying27 info38 rfl (by decide) (by omega) v140 y139 y142 _ _ _ (fun k_ => some k_ ≠ (.slice (some ad130) x3_1.length co22 : Value).ownBlock ∧ some k_ ≠ (.slice Ao33 y142.length co33 : Value).ownBlock ∧ k_ ≠ gb129) (fun _ => False) rfl rfl ?aO ?aR (fun _ _ h => h) (fun _ h => h.elim) ?aF ?aB ?aS ?aL ?_
        (case aR => repeat (first | exact (Kd.R_reads' HO144.out).2.2 | (with_reducible refine Kd.C_alloc ?_ _) | (with_reducible refine Kd.C_drewN ?_ _) | (with_reducible refine Kd.C_drew ?_)))
        (case aB => exact bls_)
        (case aF => exact (fun k_ hk => ⟨Kd.fresh' (Kd.R_lt (ra_ HO_3.out)) k_ hk, Kd.fresh' (Kd.R_lt (ra_ HO144.out)) k_ hk, Kd.freshB (g := gb129) (o := .cells #[.int .i64 ((rd_T38 l0 x10_1).f0), .int .i64 ((rd_T38 l0 x10_1).f1)] 38 (0, 0)) (bk_ BK129.out) k_ hk⟩))
        (case aO => exact (by (with_reducible repeat (first | apply Kd.R_alloc | apply Kd.R_drewN | apply Kd.R_drew)); exact Kd.R_mono HO141.out (fun _ hk => ⟨hk.2.1, ⟨hk.1, hk.2.2⟩⟩)))
        (case aS => exact (below_size bls_))
        (case aL => have := LMc17.out; omega)
        intro v146 w32 ho hb hg hat
        rw [← Ny145.out] at ho
        have HO147 := Aside0.mk (ho)
        replace HO_3 := Aside0.mk (Kd.R_after (ok := (fun k_ => some k_ ≠ (.slice Ao33 y142.length co33 : Value).ownBlock ∧ k_ ≠ gb129)) (by (with_reducible repeat (first | apply Kd.R_alloc | apply Kd.R_drewN | apply Kd.R_drew)); exact Kd.R_mono HO_3.out (fun _ hk => ⟨⟨hk.2.1, hk.2.2⟩, hk.1⟩)) hg hat)
        replace BK129 := Aside0.mk (blk_grown (g := gb129) (o := .cells #[.int .i64 ((rd_T38 l0 x10_1).f0), .int .i64 ((rd_T38 l0 x10_1).f1)] 38 (0, 0)) (bk_ BK129.out) hg (Kd.R_away HO141.out (fun _ hk => hk.2.2)))
        replace HO144 := Aside0.mk (Kd.R_after (ok := (fun k_ => some k_ ≠ (.slice (some ad130) x3_1.length co22 : Value).ownBlock ∧ k_ ≠ gb129)) (by (with_reducible repeat (first | apply Kd.R_alloc | apply Kd.R_drewN | apply Kd.R_drew)); exact Kd.R_mono HO144.out (fun _ hk => ⟨⟨hk.2.1, hk.2.2⟩, hk.1⟩)) hg hat)
        replace HB := Aside0.mk (hb)
        clear HO141
        clear ho hb hg hat
        refine hK.out _ _ ⟨(blk_cell BK129.out 0).trans rfl, (blk_cell BK129.out 1).trans rfl⟩ (fun hHeld => ?_)
        clear hK K
        refine nor_ 35 ?_
        refine pux_ 8 7 HT_ ?_
        refine done_ (done_of HT_.out (by kernel_rfl)) ?_
        have q34 : (x6_2 : Int) ≤ ((x3_1.length : Int) : Int) := odt_
        obtain ⟨i034, hi034, _, hsz34, _⟩ := info_parts info38
        have hroom34 : x3_1.length ≤ co22 := (Kd.R_reads' HO_3.out).2.1
        have hC34 : Kd.C k38 _ (some ad130) x3_1.length x3_1 := (Kd.R_reads' HO_3.out).2.2
        have q034 : (0 : Int) ≤ (x6_2 : Int) := odt_
        have hcut34 := cut_from (P := Tryz.prog) 27 38 .i64 Tryz.underlying27 hi034 2 hsz34 (some ad130) x3_1.length co22 x6_2 q034 q34
        have hr34 := Kd.C_drop (m := (x6_2 : Int).toNat) (c := co22) hC34 (by omega) hroom34
        obtain ⟨A34, hA34⟩ : ∃ A1, A1 = (if co22 = (x6_2 : Int).toNat then (some ad130) else ((some ad130) : Option Addr).map (·.add ((x6_2 : Int).toNat * 2))) := ⟨_, rfl⟩
        obtain ⟨c34, hc34⟩ : ∃ c1, c1 = co22 - (x6_2 : Int).toNat := ⟨_, rfl⟩
        have hy34 : y148.length = x3_1.length - (x6_2 : Int).toNat := (by rw [Ny148.out, List.length_drop] <;> omega)
        rw [show (x3_1).drop (x6_2 : Int).toNat = y148 from Ny148.out.symm] at hr34
        replace hr34 : Kd.C k38 _ A34 y148.length y148 := (by rw [hA34]; exact hr34)
        rw [← hy34, ← hA34, ← hc34] at hcut34
        have HR151 := Aside0.mk hr34
        have HC151 := Aside0.mk (show y148.length ≤ c34 from by rw [hy34, hc34]; exact Nat.sub_le_sub_right hroom34 _)
        clear hr34 hC34 hroom34 hi034 hsz34 hc34
        have KY34 := Aside0.mk hy34
        have KA34 := Aside0.mk hA34
        clear hy34 hA34
        have KL34 := Aside0.mk (show (x6_2 : Int).toNat ≤ x3_1.length from by omega)
        replace q34 := eq_true q34
        try go_wp2_with (first | ((with_reducible refine gate_builtin (b := .append) (xs := #[.tmp 36, .tmp 39]) rfl ?_); at_builtin; refine Kd.R_append_rows k38 (w0 := w) w.heap.size rfl (.tmp 36) (.tmp 39) 27 38 (.agg #[(.int .i64 0), (.int .i64 0)]) 16 rfl Tryz.underlying27 info38 rfl (by decide) (by omega) v146 y145 y148 _ _ _ (fun k_ => some k_ ≠ (.slice (some ad130) x3_1.length co22 : Value).ownBlock ∧ some k_ ≠ (.slice Ao33 y142.length co33 : Value).ownBlock ∧ k_ ≠ gb129) (fun _ => False) rfl rfl ?aO ?aR (fun _ _ h => h) (fun _ h => h.elim) ?aF ?aB ?aS ?aL ?_; (case aR => repeat (first | exact (by repeat (first | (with_reducible exact HR151.out) | (with_reducible refine Kd.C_alloc ?_ _) | (with_reducible refine Kd.C_drewN ?_ _) | (with_reducible refine Kd.C_drew ?_) | exact HR151.out)) | (with_reducible refine Kd.C_alloc ?_ _) | (with_reducible refine Kd.C_drewN ?_ _) | (with_reducible refine Kd.C_drew ?_))); (case aB => exact bls_); (case aF => exact (fun k_ hk => ⟨Kd.fresh' (Kd.R_lt (ra_ HO_3.out)) k_ hk, Kd.fresh' (Kd.R_lt (ra_ HO144.out)) k_ hk, Kd.freshB (g := gb129) (o := .cells #[.int .i64 ((rd_T38 l0 x10_1).f0), .int .i64 ((rd_T38 l0 x10_1).f1)] 38 (0, 0)) (bk_ BK129.out) k_ hk⟩)); (case aO => exact (ra_ HO147.out)); (case aS => exact (below_size bls_)); (case aL => have := LMc20.out; omega); intro v153 w35 ho hb hg hat; rw [← Ny152.out] at ho; have HO154 := Aside0.mk (ho); replace BK129 := Aside0.mk (blk_grown (g := gb129) (o := .cells #[.int .i64 ((rd_T38 l0 x10_1).f0), .int .i64 ((rd_T38 l0 x10_1).f1)] 38 (0, 0)) (bk_ BK129.out) hg (Kd.R_away HO147.out (fun _ hk => hk.2.2))); replace HO144 := Aside0.mk (Kd.R_after (ok := (fun k_ => some k_ ≠ (.slice (some ad130) x3_1.length co22 : Value).ownBlock ∧ k_ ≠ gb129)) (ra_ HO144.out) hg hat); replace HB := Aside0.mk (hb); replace HR151 := Aside0.mk ((show Kd.C k38 w35 A34 y148.length y148 from by rw [Ny148.out, KA34.out]; exact Kd.C_drop (m := (x6_2 : Int).toNat) (c := co22) ((Kd.R_reads' (Kd.R_after (ok := (fun k_ => some k_ ≠ (.slice Ao33 y142.length co33 : Value).ownBlock ∧ k_ ≠ gb129)) (ra_ HO_3.out) hg hat)).2.2) KL34.out ((Kd.R_reads' (Kd.R_after (ok := (fun k_ => some k_ ≠ (.slice Ao33 y142.length co33 : Value).ownBlock ∧ k_ ≠ gb129)) (ra_ HO_3.out) hg hat)).2.1))); replace HO_3 := Aside0.mk (Kd.R_after (ok := (fun k_ => some k_ ≠ (.slice Ao33 y142.length co33 : Value).ownBlock ∧ k_ ≠ gb129)) (ra_ HO_3.out) hg hat); clear HO147; clear ho hb hg hat))
        go_roundg k2
        case measure => have := HK1.out; have := HK2.out; omega
        case rel => exact ⟨(y152), (wrap64 (x10_1 + 1)), rsd_, H', ⟨by have := HK1.out; have := HK2.out; omega⟩, ⟨by (with_reducible repeat (first | apply Kd.R_alloc | apply Kd.R_drewN | apply Kd.R_drew)); exact Kd.R_mono HO154.out (fun _ hk => trivial)⟩, ⟨bls_⟩⟩
      ·rw [if_neg c7] at H
       have c7b0 : decide (x6_2 < (x3_1.length : Int)) = false := decide_eq_false c7
       clear c7
       obtain ⟨y155, hy155⟩ : ∃ y_ : List (S38), y_ = (([] : List (S38))) := ⟨_, rfl⟩
       replace H : (if 0 ≤ x6_2 then (if x6_2 ≤ (x3_1.length : Int) then ((some (x3_1.take (x6_2 : Int).toNat : List (S38))).bind fun y158 => (if y155.length + y158.length < 8796093022208 then ((some (y155 ++ y158 : List (S38))).bind fun y162 => ((some (([(⟨((rd_T38 l0 x10_1).f0), ((rd_T38 l0 x10_1).f1)⟩ : S38)] : List (S38)) : List (S38))).bind fun y165 => (if y162.length + y165.length < 8796093022208 then ((some (y162 ++ y165 : List (S38))).bind fun y168 => ((some (x3_1.drop (x6_2 : Int).toNat : List (S38))).bind fun y171 => (if y168.length + y171.length < 8796093022208 then (spec_poSorted.l0 k2 (y168 ++ y171) l0 (l0.length : Int) (wrap64 (x10_1 + 1))) else (none)))) else (none)))) else (none))) else (none)) else (none)) = some r := hyy_ hy155 H
       have Ny155 := Aside0.mk hy155
       clear hy155
       by_cases c36 : 0 ≤ x6_2
       case neg=>rw [if_neg c36] at H;exact absurd H (by simp)
       rw [if_pos c36] at H
       have c36b0 := eq_true c36
       have c36b1 : decide (0 ≤ x6_2) = true := decide_eq_true c36
       clear c36
       by_cases c37 : x6_2 ≤ (x3_1.length : Int)
       case neg=>rw [if_neg c37] at H;exact absurd H (by simp)
       rw [if_pos c37] at H
       have c37b0 := eq_true c37
       have c37b1 : decide (x6_2 ≤ (x3_1.length : Int)) = true := decide_eq_true c37
       clear c37
       obtain ⟨y158, hy158⟩ : ∃ y_ : List (S38), y_ = (x3_1.take (x6_2 : Int).toNat) := ⟨_, rfl⟩
       replace H : (if y155.length + y158.length < 8796093022208 then ((some (y155 ++ y158 : List (S38))).bind fun y162 => ((some (([(⟨((rd_T38 l0 x10_1).f0), ((rd_T38 l0 x10_1).f1)⟩ : S38)] : List (S38)) : List (S38))).bind fun y165 => (if y162.length + y165.length < 8796093022208 then ((some (y162 ++ y165 : List (S38))).bind fun y168 => ((some (x3_1.drop (x6_2 : Int).toNat : List (S38))).bind fun y171 => (if y168.length + y171.length < 8796093022208 then (spec_poSorted.l0 k2 (y168 ++ y171) l0 (l0.length : Int) (wrap64 (x10_1 + 1))) else (none)))) else (none)))) else (none)) = some r := hyy_ hy158 H
       have Ny158 := Aside0.mk hy158
       clear hy158
       by_cases c38 : y155.length + y158.length < 8796093022208
       case neg=>rw [if_neg c38] at H;exact absurd H (by simp)
       rw [if_pos c38] at H
       have LMc38 := Aside0.mk c38
       clear c38
       obtain ⟨y162, hy162⟩ : ∃ y_ : List (S38), y_ = (y155 ++ y158) := ⟨_, rfl⟩
       replace H : ((some (([(⟨((rd_T38 l0 x10_1).f0), ((rd_T38 l0 x10_1).f1)⟩ : S38)] : List (S38)) : List (S38))).bind fun y165 => (if y162.length + y165.length < 8796093022208 then ((some (y162 ++ y165 : List (S38))).bind fun y168 => ((some (x3_1.drop (x6_2 : Int).toNat : List (S38))).bind fun y171 => (if y168.length + y171.length < 8796093022208 then (spec_poSorted.l0 k2 (y168 ++ y171) l0 (l0.length : Int) (wrap64 (x10_1 + 1))) else (none)))) else (none))) = some r := hyy_ hy162 H
       have Ny162 := Aside0.mk hy162
       clear hy162
       obtain ⟨y165, hy165⟩ : ∃ y_ : List (S38), y_ = (([(⟨((rd_T38 l0 x10_1).f0), ((rd_T38 l0 x10_1).f1)⟩ : S38)] : List (S38))) := ⟨_, rfl⟩
       replace H : (if y162.length + y165.length < 8796093022208 then ((some (y162 ++ y165 : List (S38))).bind fun y168 => ((some (x3_1.drop (x6_2 : Int).toNat : List (S38))).bind fun y171 => (if y168.length + y171.length < 8796093022208 then (spec_poSorted.l0 k2 (y168 ++ y171) l0 (l0.length : Int) (wrap64 (x10_1 + 1))) else (none)))) else (none)) = some r := hyy_ hy165 H
       have Ny165 := Aside0.mk hy165
       clear hy165
       by_cases c39 : y162.length + y165.length < 8796093022208
       case neg=>rw [if_neg c39] at H;exact absurd H (by simp)
       rw [if_pos c39] at H
       have LMc39 := Aside0.mk c39
       clear c39
       obtain ⟨y168, hy168⟩ : ∃ y_ : List (S38), y_ = (y162 ++ y165) := ⟨_, rfl⟩
       replace H : ((some (x3_1.drop (x6_2 : Int).toNat : List (S38))).bind fun y171 => (if y168.length + y171.length < 8796093022208 then (spec_poSorted.l0 k2 (y168 ++ y171) l0 (l0.length : Int) (wrap64 (x10_1 + 1))) else (none))) = some r := hyy_ hy168 H
       have Ny168 := Aside0.mk hy168
       clear hy168
       have c40b0 := eq_true (odt_ : 0 ≤ x6_2)
       have c41b0 := eq_true (odt_ : x6_2 ≤ (x3_1.length : Int))
       obtain ⟨y171, hy171⟩ : ∃ y_ : List (S38), y_ = (x3_1.drop (x6_2 : Int).toNat) := ⟨_, rfl⟩
       replace H : (if y168.length + y171.length < 8796093022208 then (spec_poSorted.l0 k2 (y168 ++ y171) l0 (l0.length : Int) (wrap64 (x10_1 + 1))) else (none)) = some r := hyy_ hy171 H
       have Ny171 := Aside0.mk hy171
       clear hy171
       by_cases c42 : y168.length + y171.length < 8796093022208
       case neg=>rw [if_neg c42] at H;exact absurd H (by simp)
       rw [if_pos c42] at H
       have LMc42 := Aside0.mk c42
       clear c42
       obtain ⟨y175, hy175⟩ : ∃ y_ : List (S38), y_ = (y168 ++ y171) := ⟨_, rfl⟩
       replace H : (spec_poSorted.l0 k2 y175 l0 (l0.length : Int) (wrap64 (x10_1 + 1))) = some r := hyy_ hy175 H
       have Ny175 := Aside0.mk hy175
       clear hy175
       have H' := Aside0.mk H
       clear H
       try go_wp2
       replace HO_3 := Aside0.mk (Kd.R_drew HO_3.out)
       replace BK129 := Aside0.mk (blk_drew BK129.out)
       replace HB := Aside0.mk (below_drew1 HB.out)
       obtain ⟨Ao44, co44, eo44⟩ := Kd.R_slice HO_3.out
       (first | subst eo44 | (injection eo44 with f1_ f2_ f3_; have f4_ := f1_.symm; have f5_ := f3_.symm; clear f1_ f2_ f3_; subst f4_; subst f5_))
       refine start_ (n := 12) (S := fun w' => True) (ds := []) #[false, false, false, false, false, false, false, false, false, false, false, false] (by kernel_rfl) rfl rfl trivial (fun hHeld => ?_); refine with_tabW spec_poSorted.tab6 spec_poSorted.bits6 (fun HT_ HW_ => ?_)
       generalize wr.drew = w43 at HO_3 BK129 HB hHeld ⊢
       refine pux_ 0 14 HT_ ?_
       refine pux_ 1 15 HT_ ?_
       refine pux_ 2 16 HT_ ?_
       refine pux_ 3 17 HT_ ?_
       refine pux_ 4 18 HT_ ?_
       refine puy_ 5 19 HT_ ?_
       refine puy_ 6 20 HT_ ?_
       refine puy_ 7 21 HT_ ?_
       refine puy_ 8 22 HT_ ?_
       refine puy_ 9 23 HT_ ?_
       refine puy_ 10 24 HT_ ?_
       refine pux_ 11 25 HT_ ?_
       refine done_ (done_of HT_.out (by kernel_rfl)) ?_
       try go_wp2
       replace HO_3 := Aside0.mk (Kd.R_drew HO_3.out)
       replace BK129 := Aside0.mk (blk_drew BK129.out)
       replace HB := Aside0.mk (below_drew1 HB.out)
       have q46 : (x6_2 : Int) ≤ ((x3_1.length : Int) : Int) := odt_
       obtain ⟨i046, hi046, _, hsz46, _⟩ := info_parts info38
       have hroom46 : x3_1.length ≤ co44 := (Kd.R_reads' HO_3.out).2.1
       have hC46 : Kd.C k38 _ Ao44 x3_1.length x3_1 := (Kd.R_reads' HO_3.out).2.2
       have hcut46 := cut_to (P := Tryz.prog) 27 38 .i64 Tryz.underlying27 hi046 Ao44 x3_1.length co44 x6_2 (odt_) q46 hroom46
       have hr46 := Kd.C_take (m := (x6_2 : Int).toNat) hC46 (by omega)
       have hy46 : y158.length = (x6_2 : Int).toNat := (by rw [Ny158.out, List.length_take]; omega)
       rw [← Ny158.out] at hr46
       rw [← hy46] at hcut46
       have HR161 := Aside0.mk hr46
       have HC161 := Aside0.mk (show y158.length ≤ co44 from by omega)
       clear hr46 hC46 hroom46 hi046 hsz46
       have KY46 := Aside0.mk hy46
       clear hy46
       have KL46 := Aside0.mk (show (x6_2 : Int).toNat ≤ x3_1.length from by omega)
       replace q46 := eq_true q46
       refine start_ (n := 9) (S := fun w' => w'.cell? ⟨gb129, 0, none⟩ = some (.int .i64 ((rd_T38 l0 x10_1).f0)) ∧ w'.cell? ⟨gb129, 1, none⟩ = some (.int .i64 ((rd_T38 l0 x10_1).f1))) (ds := []) #[false, false, false, false, false, false, false, false, false] (by kernel_rfl) rfl rfl ⟨(blk_cell BK129.out 0).trans rfl, (blk_cell BK129.out 1).trans rfl⟩ (fun hHeld => ?_); refine with_tabW spec_poSorted.tab8 spec_poSorted.bits8 (fun HT_ HW_ => ?_)
       generalize w43.drew = w45 at HO_3 BK129 HB HR161 hHeld ⊢
       refine pux_ 1 29 HT_ ?_
       refine pux_ 2 30 HT_ ?_
       refine pux_ 3 31 HT_ ?_
       refine tak_ 5 33 HT_ HW_ hHeld ?_
       refine join_ (σ := Value × Value × Value) 2 #[true, true, true, true, true, true, true, false, false] (fun s_ => [(28, s_.1), (32, s_.2.1), (34, s_.2.2)]) (fun s_ w' => (w'.cell? ⟨gb129, 0, none⟩ = some (.int .i64 ((rd_T38 l0 x10_1).f0)) ∧ w'.cell? ⟨gb129, 1, none⟩ = some (.int .i64 ((rd_T38 l0 x10_1).f1))) ∧ (Kd.R k38 38 w' w.heap.size (fun k_ => some k_ ≠ (s_.2.2 : Value).ownBlock ∧ some k_ ≠ (.slice Ao44 x3_1.length co44 : Value).ownBlock ∧ k_ ≠ gb129) s_.2.1 y162) ∧ (Kd.R k38 38 w' w.heap.size (fun k_ => some k_ ≠ (s_.2.1 : Value).ownBlock ∧ some k_ ≠ (.slice Ao44 x3_1.length co44 : Value).ownBlock ∧ k_ ≠ gb129) s_.2.2 y165) ∧ (Kd.R k38 38 w' w.heap.size (fun k_ => some k_ ≠ (s_.2.1 : Value).ownBlock ∧ some k_ ≠ (s_.2.2 : Value).ownBlock ∧ k_ ≠ gb129) (.slice Ao44 x3_1.length co44) x3_1) ∧ (w'.heap[gb129]? = some (.cells #[.int .i64 ((rd_T38 l0 x10_1).f0), .int .i64 ((rd_T38 l0 x10_1).f1)] 38 (0, 0))) ∧ (Below w.heap.size w w')) ?_ ?_
       rotate_left
       ·intro hCont
        refine two_ (i := 0) (j := 6) (Ni := some 28) (Nj := some 34) #[true, true, true, true, false, true, false, false, false] #[false, true, true, true, false, true, true, false, false] rfl rfl rfl rfl (two_of HT_.out (by kernel_rfl)) (by decide) (by decide) (fun K hK => ?_) (fun K hK => ?_)
        ·skip
         refine Kd.R_lit_step k38 _ 38 ?hg (N := 28) ?hd (xs := ([] : List (S38))) (inner := []) (ok := fun _ => True) (okp := fun _ => True) ?hr ?hp (fun _ hk => hk) trivial (Below.refl _ _) (Nat.le_refl _) (by simp) ?_; (case hd => rfl); (case hg => rfl); (case hr => first | (go_simp; done) | (go_simp; rfl)); (case hp => exact (Reps.none _ _))
         intro v156 w47 ho48 hb hg_ hnew_
         clear hg_ hnew_
         (first | rw [← Ny155.out] at ho48 | (simp only [Int.reduceToNat] at ho48; rw [← Ny155.out] at ho48))
         have HO157 := Aside0.mk (Kd.R_lower (Kd.R_newB (Kd.R_new' ho48 (Kd.R_lt (ra_ HO_3.out))) (g := gb129) (o := .cells #[.int .i64 ((rd_T38 l0 x10_1).f0), .int .i64 ((rd_T38 l0 x10_1).f1)] 38 (0, 0)) (bk_ BK129.out)) (below_size bls_))
         replace HO_3 := Aside0.mk (Kd.R_elder' (ra_ HO_3.out) (Kd.R_base ho48) hb)
         replace BK129 := bb_ BK129 hb
         replace HR161 := Aside0.mk (Kd.C_below (by repeat (first | (with_reducible exact HR161.out) | (with_reducible refine Kd.C_alloc ?_ _) | (with_reducible refine Kd.C_drewN ?_ _) | (with_reducible refine Kd.C_drew ?_) | exact HR161.out)) hb)
         replace HB := Aside0.mk (below_step bls_ hb)
         clear hb ho48
         refine hK.out _ _ ⟨(blk_cell BK129.out 0).trans rfl, (blk_cell BK129.out 1).trans rfl⟩ (fun hHeld => ?_)
         clear hK K
         refine nor_ 28 ?_
         refine two_ (i := 4) (j := 6) (Ni := some 32) (Nj := some 34) #[true, true, true, true, true, true, false, false, false] #[true, true, true, true, false, true, true, false, false] rfl rfl rfl rfl (two_of HT_.out (by kernel_rfl)) (by decide) (by decide) (fun K hK => ?_) (fun K hK => ?_)
         ·skip
          refine Kd.R_append_rows_step k38 (w0 := w) w.heap.size (by rfl) (.tmp 28) (.tmp 31) 27 38 (.agg #[(.int .i64 0), (.int .i64 0)]) 16 rfl Tryz.underlying27 info38 rfl (by decide) (by omega) v156 y155 y158 _ _ _ (fun k_ => some k_ ≠ (.slice Ao44 x3_1.length co44 : Value).ownBlock ∧ k_ ≠ gb129) (fun _ => False) rfl rfl ?aO ?aR (fun _ _ h => h) (fun _ h => h.elim) ?aF ?aB ?aS ?aL ?_
          (case aR => repeat (first | exact (by repeat (first | (with_reducible exact HR161.out) | (with_reducible refine Kd.C_alloc ?_ _) | (with_reducible refine Kd.C_drewN ?_ _) | (with_reducible refine Kd.C_drew ?_) | exact HR161.out)) | (with_reducible refine Kd.C_alloc ?_ _) | (with_reducible refine Kd.C_drewN ?_ _) | (with_reducible refine Kd.C_drew ?_)))
          (case aB => exact bls_)
          (case aF => exact (fun k_ hk => ⟨Kd.fresh' (Kd.R_lt (ra_ HO_3.out)) k_ hk, Kd.freshB (g := gb129) (o := .cells #[.int .i64 ((rd_T38 l0 x10_1).f0), .int .i64 ((rd_T38 l0 x10_1).f1)] 38 (0, 0)) (bk_ BK129.out) k_ hk⟩))
          (case aO => exact (by (with_reducible repeat (first | apply Kd.R_alloc | apply Kd.R_drewN | apply Kd.R_drew)); exact Kd.R_mono HO157.out (fun _ hk => ⟨hk.1.2, hk.2⟩)))
          (case aS => exact (below_size bls_))
          (case aL => have := LMc38.out; omega)
          intro v163 w49 ho hb hg hat
          rw [← Ny162.out] at ho
          have HO164 := Aside0.mk (ho)
          replace BK129 := Aside0.mk (blk_grown (g := gb129) (o := .cells #[.int .i64 ((rd_T38 l0 x10_1).f0), .int .i64 ((rd_T38 l0 x10_1).f1)] 38 (0, 0)) (bk_ BK129.out) hg (Kd.R_away HO157.out (fun _ hk => hk.2)))
          replace HB := Aside0.mk (hb)
          replace HR161 := Aside0.mk ((show Kd.C k38 w49 Ao44 y158.length y158 from by rw [Ny158.out]; exact Kd.C_take (m := (x6_2 : Int).toNat) ((Kd.R_reads' (Kd.R_after (ok := (fun k_ => k_ ≠ gb129)) (ra_ HO_3.out) hg hat)).2.2) KL46.out))
          replace HO_3 := Aside0.mk (Kd.R_after (ok := (fun k_ => k_ ≠ gb129)) (ra_ HO_3.out) hg hat)
          clear HO157
          clear ho hb hg hat
          refine hK.out _ _ ⟨(blk_cell BK129.out 0).trans rfl, (blk_cell BK129.out 1).trans rfl⟩ (fun hHeld => ?_)
          clear hK K
          refine nor_ 32 ?_
          refine oner_ 6 34 HT_ (fun K hK => ?_)
          refine Kd.R_lit_step k38 _ 38 ?hg (N := 34) ?hd (xs := ([(⟨((rd_T38 l0 x10_1).f0), ((rd_T38 l0 x10_1).f1)⟩ : S38)] : List (S38))) (inner := [.int .i64 ((rd_T38 l0 x10_1).f0), .int .i64 ((rd_T38 l0 x10_1).f1)]) (ok := fun _ => True) (okp := fun _ => True) ?hr ?hp (fun _ hk => hk) trivial (Below.refl _ _) (Nat.le_refl _) (by simp) ?_; (case hd => rfl); (case hg => rfl); (case hr => first | (go_simp; done) | (go_simp; rfl)); (case hp => exact (Reps.c2 (show Kd.M k38 _ _ _ (⟨((rd_T38 l0 x10_1).f0), ((rd_T38 l0 x10_1).f1)⟩ : S38) [.int .i64 ((rd_T38 l0 x10_1).f0), .int .i64 ((rd_T38 l0 x10_1).f1)] from (k38_mkM _ _ _ (⟨((rd_T38 l0 x10_1).f0), ((rd_T38 l0 x10_1).f1)⟩ : S38) )) (Reps.none _ _)))
          intro v166 w50 ho51 hb hg_ hnew_
          clear hg_ hnew_
          (first | rw [← Ny165.out] at ho51 | (simp only [Int.reduceToNat] at ho51; rw [← Ny165.out] at ho51))
          have HO167 := Aside0.mk (Kd.R_lower (Kd.R_newB (Kd.R_new' (Kd.R_new' ho51 (Kd.R_lt (ra_ HO_3.out))) (Kd.R_lt (ra_ HO164.out))) (g := gb129) (o := .cells #[.int .i64 ((rd_T38 l0 x10_1).f0), .int .i64 ((rd_T38 l0 x10_1).f1)] 38 (0, 0)) (bk_ BK129.out)) (below_size bls_))
          replace HO_3 := Aside0.mk (Kd.R_elder' (ra_ HO_3.out) (Kd.R_base ho51) hb)
          replace HO164 := Aside0.mk (Kd.R_elder' (ra_ HO164.out) (Kd.R_base ho51) hb)
          replace BK129 := bb_ BK129 hb
          replace HR161 := Aside0.mk (Kd.C_below (by repeat (first | (with_reducible exact HR161.out) | (with_reducible refine Kd.C_alloc ?_ _) | (with_reducible refine Kd.C_drewN ?_ _) | (with_reducible refine Kd.C_drew ?_) | exact HR161.out)) hb)
          replace HB := Aside0.mk (below_step bls_ hb)
          clear hb ho51
          refine hK.out _ _ ⟨(blk_cell BK129.out 0).trans rfl, (blk_cell BK129.out 1).trans rfl⟩ (fun hHeld => ?_)
          clear hK K
          refine nor_ 34 ?_
          exact norm_ (by simp only [putAll, Act.put, List.setIfInBounds_toArray, List.set_cons_zero, List.set_cons_succ]) (hCont (v156, v163, v166) _ ⟨hHeld, (by (with_reducible repeat (first | apply Kd.R_alloc | apply Kd.R_drewN | apply Kd.R_drew)); exact Kd.R_mono HO164.out (fun _ hk => ⟨hk.2, ⟨hk.1.1, hk.1.2⟩⟩)), (by (with_reducible repeat (first | apply Kd.R_alloc | apply Kd.R_drewN | apply Kd.R_drew)); exact Kd.R_mono HO167.out (fun _ hk => ⟨hk.1.2, ⟨hk.1.1.2, hk.2⟩⟩)), (by (with_reducible repeat (first | apply Kd.R_alloc | apply Kd.R_drewN | apply Kd.R_drew)); exact Kd.R_mono HO_3.out (fun _ hk => ⟨hk.1.2, ⟨hk.2, hk.1.1⟩⟩)), (bk_ BK129.out), bls_⟩)
         ·skip
          refine Kd.R_lit_step k38 _ 38 ?hg (N := 34) ?hd (xs := ([(⟨((rd_T38 l0 x10_1).f0), ((rd_T38 l0 x10_1).f1)⟩ : S38)] : List (S38))) (inner := [.int .i64 ((rd_T38 l0 x10_1).f0), .int .i64 ((rd_T38 l0 x10_1).f1)]) (ok := fun _ => True) (okp := fun _ => True) ?hr ?hp (fun _ hk => hk) trivial (Below.refl _ _) (Nat.le_refl _) (by simp) ?_; (case hd => rfl); (case hg => rfl); (case hr => first | (go_simp; done) | (go_simp; rfl)); (case hp => exact (Reps.c2 (show Kd.M k38 _ _ _ (⟨((rd_T38 l0 x10_1).f0), ((rd_T38 l0 x10_1).f1)⟩ : S38) [.int .i64 ((rd_T38 l0 x10_1).f0), .int .i64 ((rd_T38 l0 x10_1).f1)] from (k38_mkM _ _ _ (⟨((rd_T38 l0 x10_1).f0), ((rd_T38 l0 x10_1).f1)⟩ : S38) )) (Reps.none _ _)))
          intro v166 w49 ho50 hb hg_ hnew_
          clear hg_ hnew_
          (first | rw [← Ny165.out] at ho50 | (simp only [Int.reduceToNat] at ho50; rw [← Ny165.out] at ho50))
          have HO167 := Aside0.mk (Kd.R_lower (Kd.R_newB (Kd.R_new' (Kd.R_new' ho50 (Kd.R_lt (ra_ HO_3.out))) (Kd.R_lt (ra_ HO157.out))) (g := gb129) (o := .cells #[.int .i64 ((rd_T38 l0 x10_1).f0), .int .i64 ((rd_T38 l0 x10_1).f1)] 38 (0, 0)) (bk_ BK129.out)) (below_size bls_))
          replace HO_3 := Aside0.mk (Kd.R_elder' (ra_ HO_3.out) (Kd.R_base ho50) hb)
          replace HO157 := Aside0.mk (Kd.R_elder' (ra_ HO157.out) (Kd.R_base ho50) hb)
          replace BK129 := bb_ BK129 hb
          replace HR161 := Aside0.mk (Kd.C_below (by repeat (first | (with_reducible exact HR161.out) | (with_reducible refine Kd.C_alloc ?_ _) | (with_reducible refine Kd.C_drewN ?_ _) | (with_reducible refine Kd.C_drew ?_) | exact HR161.out)) hb)
          replace HB := Aside0.mk (below_step bls_ hb)
          clear hb ho50
          refine hK.out _ _ ⟨(blk_cell BK129.out 0).trans rfl, (blk_cell BK129.out 1).trans rfl⟩ (fun hHeld => ?_)
          clear hK K
          refine nor_ 34 ?_
          refine oner_ 4 32 HT_ (fun K hK => ?_)
          refine Kd.R_append_rows_step k38 (w0 := w) w.heap.size (by rfl) (.tmp 28) (.tmp 31) 27 38 (.agg #[(.int .i64 0), (.int .i64 0)]) 16 rfl Tryz.underlying27 info38 rfl (by decide) (by omega) v156 y155 y158 _ _ _ (fun k_ => some k_ ≠ (.slice Ao44 x3_1.length co44 : Value).ownBlock ∧ some k_ ≠ (v166 : Value).ownBlock ∧ k_ ≠ gb129) (fun _ => False) rfl rfl ?aO ?aR (fun _ _ h => h) (fun _ h => h.elim) ?aF ?aB ?aS ?aL ?_
          (case aR => repeat (first | exact (by repeat (first | (with_reducible exact HR161.out) | (with_reducible refine Kd.C_alloc ?_ _) | (with_reducible refine Kd.C_drewN ?_ _) | (with_reducible refine Kd.C_drew ?_) | exact HR161.out)) | (with_reducible refine Kd.C_alloc ?_ _) | (with_reducible refine Kd.C_drewN ?_ _) | (with_reducible refine Kd.C_drew ?_)))
          (case aB => exact bls_)
          (case aF => exact (fun k_ hk => ⟨Kd.fresh' (Kd.R_lt (ra_ HO_3.out)) k_ hk, Kd.fresh' (Kd.R_lt (ra_ HO167.out)) k_ hk, Kd.freshB (g := gb129) (o := .cells #[.int .i64 ((rd_T38 l0 x10_1).f0), .int .i64 ((rd_T38 l0 x10_1).f1)] 38 (0, 0)) (bk_ BK129.out) k_ hk⟩))
          (case aO => exact (by (with_reducible repeat (first | apply Kd.R_alloc | apply Kd.R_drewN | apply Kd.R_drew)); exact Kd.R_mono HO157.out (fun _ hk => ⟨hk.1.1.2, ⟨hk.2, hk.1.2⟩⟩)))
          (case aS => exact (below_size bls_))
          (case aL => have := LMc38.out; omega)
          intro v163 w51 ho hb hg hat
          rw [← Ny162.out] at ho
          have HO164 := Aside0.mk (ho)
          replace BK129 := Aside0.mk (blk_grown (g := gb129) (o := .cells #[.int .i64 ((rd_T38 l0 x10_1).f0), .int .i64 ((rd_T38 l0 x10_1).f1)] 38 (0, 0)) (bk_ BK129.out) hg (Kd.R_away HO157.out (fun _ hk => hk.1.2)))
          replace HO167 := Aside0.mk (Kd.R_after (ok := (fun k_ => some k_ ≠ (.slice Ao44 x3_1.length co44 : Value).ownBlock ∧ k_ ≠ gb129)) (by (with_reducible repeat (first | apply Kd.R_alloc | apply Kd.R_drewN | apply Kd.R_drew)); exact Kd.R_mono HO167.out (fun _ hk => ⟨⟨hk.1.1.2, hk.2⟩, hk.1.2⟩)) hg hat)
          replace HB := Aside0.mk (hb)
          replace HR161 := Aside0.mk ((show Kd.C k38 w51 Ao44 y158.length y158 from by rw [Ny158.out]; exact Kd.C_take (m := (x6_2 : Int).toNat) ((Kd.R_reads' (Kd.R_after (ok := (fun k_ => some k_ ≠ (v166 : Value).ownBlock ∧ k_ ≠ gb129)) (by (with_reducible repeat (first | apply Kd.R_alloc | apply Kd.R_drewN | apply Kd.R_drew)); exact Kd.R_mono HO_3.out (fun _ hk => ⟨⟨hk.2, hk.1.1⟩, hk.1.2⟩)) hg hat)).2.2) KL46.out))
          replace HO_3 := Aside0.mk (Kd.R_after (ok := (fun k_ => some k_ ≠ (v166 : Value).ownBlock ∧ k_ ≠ gb129)) (by (with_reducible repeat (first | apply Kd.R_alloc | apply Kd.R_drewN | apply Kd.R_drew)); exact Kd.R_mono HO_3.out (fun _ hk => ⟨⟨hk.2, hk.1.1⟩, hk.1.2⟩)) hg hat)
          clear HO157
          clear ho hb hg hat
          refine hK.out _ _ ⟨(blk_cell BK129.out 0).trans rfl, (blk_cell BK129.out 1).trans rfl⟩ (fun hHeld => ?_)
          clear hK K
          refine nor_ 32 ?_
          exact norm_ (by simp only [putAll, Act.put, List.setIfInBounds_toArray, List.set_cons_zero, List.set_cons_succ]) (hCont (v156, v163, v166) _ ⟨hHeld, (by (with_reducible repeat (first | apply Kd.R_alloc | apply Kd.R_drewN | apply Kd.R_drew)); exact Kd.R_mono HO164.out (fun _ hk => ⟨hk.2.1, ⟨hk.1, hk.2.2⟩⟩)), (by (with_reducible repeat (first | apply Kd.R_alloc | apply Kd.R_drewN | apply Kd.R_drew)); exact Kd.R_mono HO167.out (fun _ hk => ⟨hk.2, ⟨hk.1.1, hk.1.2⟩⟩)), (by (with_reducible repeat (first | apply Kd.R_alloc | apply Kd.R_drewN | apply Kd.R_drew)); exact Kd.R_mono HO_3.out (fun _ hk => ⟨hk.2, ⟨hk.1.1, hk.1.2⟩⟩)), (bk_ BK129.out), bls_⟩)
        ·skip
         refine Kd.R_lit_step k38 _ 38 ?hg (N := 34) ?hd (xs := ([(⟨((rd_T38 l0 x10_1).f0), ((rd_T38 l0 x10_1).f1)⟩ : S38)] : List (S38))) (inner := [.int .i64 ((rd_T38 l0 x10_1).f0), .int .i64 ((rd_T38 l0 x10_1).f1)]) (ok := fun _ => True) (okp := fun _ => True) ?hr ?hp (fun _ hk => hk) trivial (Below.refl _ _) (Nat.le_refl _) (by simp) ?_; (case hd => rfl); (case hg => rfl); (case hr => first | (go_simp; done) | (go_simp; rfl)); (case hp => exact (Reps.c2 (show Kd.M k38 _ _ _ (⟨((rd_T38 l0 x10_1).f0), ((rd_T38 l0 x10_1).f1)⟩ : S38) [.int .i64 ((rd_T38 l0 x10_1).f0), .int .i64 ((rd_T38 l0 x10_1).f1)] from (k38_mkM _ _ _ (⟨((rd_T38 l0 x10_1).f0), ((rd_T38 l0 x10_1).f1)⟩ : S38) )) (Reps.none _ _)))
         intro v166 w47 ho48 hb hg_ hnew_
         clear hg_ hnew_
         (first | rw [← Ny165.out] at ho48 | (simp only [Int.reduceToNat] at ho48; rw [← Ny165.out] at ho48))
         have HO167 := Aside0.mk (Kd.R_lower (Kd.R_newB (Kd.R_new' ho48 (Kd.R_lt (ra_ HO_3.out))) (g := gb129) (o := .cells #[.int .i64 ((rd_T38 l0 x10_1).f0), .int .i64 ((rd_T38 l0 x10_1).f1)] 38 (0, 0)) (bk_ BK129.out)) (below_size bls_))
         replace HO_3 := Aside0.mk (Kd.R_elder' (ra_ HO_3.out) (Kd.R_base ho48) hb)
         replace BK129 := bb_ BK129 hb
         replace HR161 := Aside0.mk (Kd.C_below (by repeat (first | (with_reducible exact HR161.out) | (with_reducible refine Kd.C_alloc ?_ _) | (with_reducible refine Kd.C_drewN ?_ _) | (with_reducible refine Kd.C_drew ?_) | exact HR161.out)) hb)
         replace HB := Aside0.mk (below_step bls_ hb)
         clear hb ho48
         refine hK.out _ _ ⟨(blk_cell BK129.out 0).trans rfl, (blk_cell BK129.out 1).trans rfl⟩ (fun hHeld => ?_)
         clear hK K
         refine nor_ 34 ?_
         refine oner_ 0 28 HT_ (fun K hK => ?_)
         refine Kd.R_lit_step k38 _ 38 ?hg (N := 28) ?hd (xs := ([] : List (S38))) (inner := []) (ok := fun _ => True) (okp := fun _ => True) ?hr ?hp (fun _ hk => hk) trivial (Below.refl _ _) (Nat.le_refl _) (by simp) ?_; (case hd => rfl); (case hg => rfl); (case hr => first | (go_simp; done) | (go_simp; rfl)); (case hp => exact (Reps.none _ _))
         intro v156 w49 ho50 hb hg_ hnew_
         clear hg_ hnew_
         (first | rw [← Ny155.out] at ho50 | (simp only [Int.reduceToNat] at ho50; rw [← Ny155.out] at ho50))
         have HO157 := Aside0.mk (Kd.R_lower (Kd.R_newB (Kd.R_new' (Kd.R_new' ho50 (Kd.R_lt (ra_ HO_3.out))) (Kd.R_lt (ra_ HO167.out))) (g := gb129) (o := .cells #[.int .i64 ((rd_T38 l0 x10_1).f0), .int .i64 ((rd_T38 l0 x10_1).f1)] 38 (0, 0)) (bk_ BK129.out)) (below_size bls_))
         replace HO_3 := Aside0.mk (Kd.R_elder' (ra_ HO_3.out) (Kd.R_base ho50) hb)
         replace HO167 := Aside0.mk (Kd.R_elder' (ra_ HO167.out) (Kd.R_base ho50) hb)
         replace BK129 := bb_ BK129 hb
         replace HR161 := Aside0.mk (Kd.C_below (by repeat (first | (with_reducible exact HR161.out) | (with_reducible refine Kd.C_alloc ?_ _) | (with_reducible refine Kd.C_drewN ?_ _) | (with_reducible refine Kd.C_drew ?_) | exact HR161.out)) hb)
         replace HB := Aside0.mk (below_step bls_ hb)
         clear hb ho50
         refine hK.out _ _ ⟨(blk_cell BK129.out 0).trans rfl, (blk_cell BK129.out 1).trans rfl⟩ (fun hHeld => ?_)
         clear hK K
         refine nor_ 28 ?_
         refine oner_ 4 32 HT_ (fun K hK => ?_)
         refine Kd.R_append_rows_step k38 (w0 := w) w.heap.size (by rfl) (.tmp 28) (.tmp 31) 27 38 (.agg #[(.int .i64 0), (.int .i64 0)]) 16 rfl Tryz.underlying27 info38 rfl (by decide) (by omega) v156 y155 y158 _ _ _ (fun k_ => some k_ ≠ (.slice Ao44 x3_1.length co44 : Value).ownBlock ∧ some k_ ≠ (v166 : Value).ownBlock ∧ k_ ≠ gb129) (fun _ => False) rfl rfl ?aO ?aR (fun _ _ h => h) (fun _ h => h.elim) ?aF ?aB ?aS ?aL ?_
         (case aR => repeat (first | exact (by repeat (first | (with_reducible exact HR161.out) | (with_reducible refine Kd.C_alloc ?_ _) | (with_reducible refine Kd.C_drewN ?_ _) | (with_reducible refine Kd.C_drew ?_) | exact HR161.out)) | (with_reducible refine Kd.C_alloc ?_ _) | (with_reducible refine Kd.C_drewN ?_ _) | (with_reducible refine Kd.C_drew ?_)))
         (case aB => exact bls_)
         (case aF => exact (fun k_ hk => ⟨Kd.fresh' (Kd.R_lt (ra_ HO_3.out)) k_ hk, Kd.fresh' (Kd.R_lt (ra_ HO167.out)) k_ hk, Kd.freshB (g := gb129) (o := .cells #[.int .i64 ((rd_T38 l0 x10_1).f0), .int .i64 ((rd_T38 l0 x10_1).f1)] 38 (0, 0)) (bk_ BK129.out) k_ hk⟩))
         (case aO => exact (by (with_reducible repeat (first | apply Kd.R_alloc | apply Kd.R_drewN | apply Kd.R_drew)); exact Kd.R_mono HO157.out (fun _ hk => ⟨hk.1.1.2, ⟨hk.1.2, hk.2⟩⟩)))
         (case aS => exact (below_size bls_))
         (case aL => have := LMc38.out; omega)
         intro v163 w51 ho hb hg hat
         rw [← Ny162.out] at ho
         have HO164 := Aside0.mk (ho)
         replace BK129 := Aside0.mk (blk_grown (g := gb129) (o := .cells #[.int .i64 ((rd_T38 l0 x10_1).f0), .int .i64 ((rd_T38 l0 x10_1).f1)] 38 (0, 0)) (bk_ BK129.out) hg (Kd.R_away HO157.out (fun _ hk => hk.2)))
         replace HO167 := Aside0.mk (Kd.R_after (ok := (fun k_ => some k_ ≠ (.slice Ao44 x3_1.length co44 : Value).ownBlock ∧ k_ ≠ gb129)) (by (with_reducible repeat (first | apply Kd.R_alloc | apply Kd.R_drewN | apply Kd.R_drew)); exact Kd.R_mono HO167.out (fun _ hk => ⟨⟨hk.1.1.2, hk.1.2⟩, hk.2⟩)) hg hat)
         replace HB := Aside0.mk (hb)
         replace HR161 := Aside0.mk ((show Kd.C k38 w51 Ao44 y158.length y158 from by rw [Ny158.out]; exact Kd.C_take (m := (x6_2 : Int).toNat) ((Kd.R_reads' (Kd.R_after (ok := (fun k_ => some k_ ≠ (v166 : Value).ownBlock ∧ k_ ≠ gb129)) (by (with_reducible repeat (first | apply Kd.R_alloc | apply Kd.R_drewN | apply Kd.R_drew)); exact Kd.R_mono HO_3.out (fun _ hk => ⟨⟨hk.1.2, hk.1.1⟩, hk.2⟩)) hg hat)).2.2) KL46.out))
         replace HO_3 := Aside0.mk (Kd.R_after (ok := (fun k_ => some k_ ≠ (v166 : Value).ownBlock ∧ k_ ≠ gb129)) (by (with_reducible repeat (first | apply Kd.R_alloc | apply Kd.R_drewN | apply Kd.R_drew)); exact Kd.R_mono HO_3.out (fun _ hk => ⟨⟨hk.1.2, hk.1.1⟩, hk.2⟩)) hg hat)
         clear HO157
         clear ho hb hg hat
         refine hK.out _ _ ⟨(blk_cell BK129.out 0).trans rfl, (blk_cell BK129.out 1).trans rfl⟩ (fun hHeld => ?_)
         clear hK K
         refine nor_ 32 ?_
         exact norm_ (by simp only [putAll, Act.put, List.setIfInBounds_toArray, List.set_cons_zero, List.set_cons_succ]) (hCont (v156, v163, v166) _ ⟨hHeld, (by (with_reducible repeat (first | apply Kd.R_alloc | apply Kd.R_drewN | apply Kd.R_drew)); exact Kd.R_mono HO164.out (fun _ hk => ⟨hk.2.1, ⟨hk.1, hk.2.2⟩⟩)), (by (with_reducible repeat (first | apply Kd.R_alloc | apply Kd.R_drewN | apply Kd.R_drew)); exact Kd.R_mono HO167.out (fun _ hk => ⟨hk.2, ⟨hk.1.1, hk.1.2⟩⟩)), (by (with_reducible repeat (first | apply Kd.R_alloc | apply Kd.R_drewN | apply Kd.R_drew)); exact Kd.R_mono HO_3.out (fun _ hk => ⟨hk.2, ⟨hk.1.1, hk.1.2⟩⟩)), (bk_ BK129.out), bls_⟩)
       rintro ⟨v156, v163, v166⟩ w52 ⟨hS_, h0_, h1_, h2_, h3_, h4_⟩
       have HO164 : Aside0 (Kd.R k38 38 w52 w.heap.size (fun k_ => some k_ ≠ (v166 : Value).ownBlock ∧ some k_ ≠ (.slice Ao44 x3_1.length co44 : Value).ownBlock ∧ k_ ≠ gb129) v163 y162) := ⟨h0_⟩
       have HO167 : Aside0 (Kd.R k38 38 w52 w.heap.size (fun k_ => some k_ ≠ (v163 : Value).ownBlock ∧ some k_ ≠ (.slice Ao44 x3_1.length co44 : Value).ownBlock ∧ k_ ≠ gb129) v166 y165) := ⟨h1_⟩
       replace HO_3 : Aside0 (Kd.R k38 38 w52 w.heap.size (fun k_ => some k_ ≠ (v163 : Value).ownBlock ∧ some k_ ≠ (v166 : Value).ownBlock ∧ k_ ≠ gb129) (.slice Ao44 x3_1.length co44) x3_1) := ⟨h2_⟩
       replace BK129 : Aside0 (w52.heap[gb129]? = some (.cells #[.int .i64 ((rd_T38 l0 x10_1).f0), .int .i64 ((rd_T38 l0 x10_1).f1)] 38 (0, 0))) := ⟨h3_⟩
       replace HB : Aside0 (Below w.heap.size w w52) := ⟨h4_⟩
       clear h0_ h1_ h2_ h3_ h4_
       have hHeld : w52.cell? ⟨gb129, 0, none⟩ = some (.int .i64 ((rd_T38 l0 x10_1).f0)) ∧ w52.cell? ⟨gb129, 1, none⟩ = some (.int .i64 ((rd_T38 l0 x10_1).f1)) := hS_
       obtain ⟨Ao54, co54, eo54⟩ := Kd.R_slice HO167.out
       (first | subst eo54 | (injection eo54 with f1_ f2_ f3_; have f4_ := f1_.symm; have f5_ := f3_.symm; clear f1_ f2_ f3_; subst f4_; subst f5_))
       refine norm_ (a' := ?_) ?_ ?_
       rotate_left
       ·simp only [putAll, Act.put, List.setIfInBounds_toArray, List.set_cons_zero, List.set_cons_succ]
        rfl
       refine oner_ 7 35 HT_ (fun K hK => ?_)
       refine Kd.R_append_rows_step k38 (w0 := w) w.heap.size (by rfl) (.tmp 32) (.tmp 34) 27 38 (.agg #[(.int .i64 0), (.int .i64 0)]) 16 rfl Tryz.underlying27 info38 rfl (by decide) (by omega) v163 y162 y165 _ _ _ (fun k_ => some k_ ≠ (.slice Ao44 x3_1.length co44 : Value).ownBlock ∧ some k_ ≠ (.slice Ao54 y165.length co54 : Value).ownBlock ∧ k_ ≠ gb129) (fun _ => False) rfl rfl ?aO ?aR (fun _ _ h => h) (fun _ h => h.elim) ?aF ?aB ?aS ?aL ?_
       (case aR => repeat (first | exact (Kd.R_reads' HO167.out).2.2 | (with_reducible refine Kd.C_alloc ?_ _) | (with_reducible refine Kd.C_drewN ?_ _) | (with_reducible refine Kd.C_drew ?_)))
       (case aB => exact bls_)
       (case aF => exact (fun k_ hk => ⟨Kd.fresh' (Kd.R_lt (ra_ HO_3.out)) k_ hk, Kd.fresh' (Kd.R_lt (ra_ HO167.out)) k_ hk, Kd.freshB (g := gb129) (o := .cells #[.int .i64 ((rd_T38 l0 x10_1).f0), .int .i64 ((rd_T38 l0 x10_1).f1)] 38 (0, 0)) (bk_ BK129.out) k_ hk⟩))
       (case aO => exact (by (with_reducible repeat (first | apply Kd.R_alloc | apply Kd.R_drewN | apply Kd.R_drew)); exact Kd.R_mono HO164.out (fun _ hk => ⟨hk.2.1, ⟨hk.1, hk.2.2⟩⟩)))
       (case aS => exact (below_size bls_))
       (case aL => have := LMc39.out; omega)
       intro v169 w53 ho hb hg hat
       rw [← Ny168.out] at ho
       have HO170 := Aside0.mk (ho)
       replace HO_3 := Aside0.mk (Kd.R_after (ok := (fun k_ => some k_ ≠ (.slice Ao54 y165.length co54 : Value).ownBlock ∧ k_ ≠ gb129)) (by (with_reducible repeat (first | apply Kd.R_alloc | apply Kd.R_drewN | apply Kd.R_drew)); exact Kd.R_mono HO_3.out (fun _ hk => ⟨⟨hk.2.1, hk.2.2⟩, hk.1⟩)) hg hat)
       replace BK129 := Aside0.mk (blk_grown (g := gb129) (o := .cells #[.int .i64 ((rd_T38 l0 x10_1).f0), .int .i64 ((rd_T38 l0 x10_1).f1)] 38 (0, 0)) (bk_ BK129.out) hg (Kd.R_away HO164.out (fun _ hk => hk.2.2)))
       replace HO167 := Aside0.mk (Kd.R_after (ok := (fun k_ => some k_ ≠ (.slice Ao44 x3_1.length co44 : Value).ownBlock ∧ k_ ≠ gb129)) (by (with_reducible repeat (first | apply Kd.R_alloc | apply Kd.R_drewN | apply Kd.R_drew)); exact Kd.R_mono HO167.out (fun _ hk => ⟨⟨hk.2.1, hk.2.2⟩, hk.1⟩)) hg hat)
       replace HB := Aside0.mk (hb)
       clear HO164
       clear ho hb hg hat
       refine hK.out _ _ ⟨(blk_cell BK129.out 0).trans rfl, (blk_cell BK129.out 1).trans rfl⟩ (fun hHeld => ?_)
       clear hK K
       refine nor_ 35 ?_
       refine pux_ 8 7 HT_ ?_
       refine done_ (done_of HT_.out (by kernel_rfl)) ?_
       have q55 : (x6_2 : Int) ≤ ((x3_1.length : Int) : Int) := odt_
       obtain ⟨i055, hi055, _, hsz55, _⟩ := info_parts info38
       have hroom55 : x3_1.length ≤ co44 := (Kd.R_reads' HO_3.out).2.1
       have hC55 : Kd.C k38 _ Ao44 x3_1.length x3_1 := (Kd.R_reads' HO_3.out).2.2
       have q055 : (0 : Int) ≤ (x6_2 : Int) := odt_
       have hcut55 := cut_from (P := Tryz.prog) 27 38 .i64 Tryz.underlying27 hi055 2 hsz55 Ao44 x3_1.length co44 x6_2 q055 q55
       have hr55 := Kd.C_drop (m := (x6_2 : Int).toNat) (c := co44) hC55 (by omega) hroom55
       obtain ⟨A55, hA55⟩ : ∃ A1, A1 = (if co44 = (x6_2 : Int).toNat then Ao44 else (Ao44 : Option Addr).map (·.add ((x6_2 : Int).toNat * 2))) := ⟨_, rfl⟩
       obtain ⟨c55, hc55⟩ : ∃ c1, c1 = co44 - (x6_2 : Int).toNat := ⟨_, rfl⟩
       have hy55 : y171.length = x3_1.length - (x6_2 : Int).toNat := (by rw [Ny171.out, List.length_drop] <;> omega)
       rw [show (x3_1).drop (x6_2 : Int).toNat = y171 from Ny171.out.symm] at hr55
       replace hr55 : Kd.C k38 _ A55 y171.length y171 := (by rw [hA55]; exact hr55)
       rw [← hy55, ← hA55, ← hc55] at hcut55
       have HR174 := Aside0.mk hr55
       have HC174 := Aside0.mk (show y171.length ≤ c55 from by rw [hy55, hc55]; exact Nat.sub_le_sub_right hroom55 _)
       clear hr55 hC55 hroom55 hi055 hsz55 hc55
       have KY55 := Aside0.mk hy55
       have KA55 := Aside0.mk hA55
       clear hy55 hA55
       have KL55 := Aside0.mk (show (x6_2 : Int).toNat ≤ x3_1.length from by omega)
       replace q55 := eq_true q55
       try go_wp2_with (first | ((with_reducible refine gate_builtin (b := .append) (xs := #[.tmp 36, .tmp 39]) rfl ?_); at_builtin; refine Kd.R_append_rows k38 (w0 := w) w.heap.size rfl (.tmp 36) (.tmp 39) 27 38 (.agg #[(.int .i64 0), (.int .i64 0)]) 16 rfl Tryz.underlying27 info38 rfl (by decide) (by omega) v169 y168 y171 _ _ _ (fun k_ => some k_ ≠ (.slice Ao44 x3_1.length co44 : Value).ownBlock ∧ some k_ ≠ (.slice Ao54 y165.length co54 : Value).ownBlock ∧ k_ ≠ gb129) (fun _ => False) rfl rfl ?aO ?aR (fun _ _ h => h) (fun _ h => h.elim) ?aF ?aB ?aS ?aL ?_; (case aR => repeat (first | exact (by repeat (first | (with_reducible exact HR174.out) | (with_reducible refine Kd.C_alloc ?_ _) | (with_reducible refine Kd.C_drewN ?_ _) | (with_reducible refine Kd.C_drew ?_) | exact HR174.out)) | (with_reducible refine Kd.C_alloc ?_ _) | (with_reducible refine Kd.C_drewN ?_ _) | (with_reducible refine Kd.C_drew ?_))); (case aB => exact bls_); (case aF => exact (fun k_ hk => ⟨Kd.fresh' (Kd.R_lt (ra_ HO_3.out)) k_ hk, Kd.fresh' (Kd.R_lt (ra_ HO167.out)) k_ hk, Kd.freshB (g := gb129) (o := .cells #[.int .i64 ((rd_T38 l0 x10_1).f0), .int .i64 ((rd_T38 l0 x10_1).f1)] 38 (0, 0)) (bk_ BK129.out) k_ hk⟩)); (case aO => exact (ra_ HO170.out)); (case aS => exact (below_size bls_)); (case aL => have := LMc42.out; omega); intro v176 w56 ho hb hg hat; rw [← Ny175.out] at ho; have HO177 := Aside0.mk (ho); replace BK129 := Aside0.mk (blk_grown (g := gb129) (o := .cells #[.int .i64 ((rd_T38 l0 x10_1).f0), .int .i64 ((rd_T38 l0 x10_1).f1)] 38 (0, 0)) (bk_ BK129.out) hg (Kd.R_away HO170.out (fun _ hk => hk.2.2))); replace HO167 := Aside0.mk (Kd.R_after (ok := (fun k_ => some k_ ≠ (.slice Ao44 x3_1.length co44 : Value).ownBlock ∧ k_ ≠ gb129)) (ra_ HO167.out) hg hat); replace HB := Aside0.mk (hb); replace HR174 := Aside0.mk ((show Kd.C k38 w56 A55 y171.length y171 from by rw [Ny171.out, KA55.out]; exact Kd.C_drop (m := (x6_2 : Int).toNat) (c := co44) ((Kd.R_reads' (Kd.R_after (ok := (fun k_ => some k_ ≠ (.slice Ao54 y165.length co54 : Value).ownBlock ∧ k_ ≠ gb129)) (ra_ HO_3.out) hg hat)).2.2) KL55.out ((Kd.R_reads' (Kd.R_after (ok := (fun k_ => some k_ ≠ (.slice Ao54 y165.length co54 : Value).ownBlock ∧ k_ ≠ gb129)) (ra_ HO_3.out) hg hat)).2.1))); replace HO_3 := Aside0.mk (Kd.R_after (ok := (fun k_ => some k_ ≠ (.slice Ao54 y165.length co54 : Value).ownBlock ∧ k_ ≠ gb129)) (ra_ HO_3.out) hg hat); clear HO170; clear ho hb hg hat))
       go_roundg k2
       case measure => have := HK1.out; have := HK2.out; omega
       case rel => exact ⟨(y175), (wrap64 (x10_1 + 1)), rsd_, H', ⟨by have := HK1.out; have := HK2.out; omega⟩, ⟨by (with_reducible repeat (first | apply Kd.R_alloc | apply Kd.R_drewN | apply Kd.R_drew)); exact Kd.R_mono HO177.out (fun _ hk => trivial)⟩, ⟨bls_⟩⟩
   ·rw [if_neg c2] at H
    have c2b0 : decide (x10_1 < (l0.length : Int)) = false := decide_eq_false c2
    clear c2
    obtain rfl := Option.some.inj H
    go_wp2
    go_ret
    exact ⟨_, by first | rfl | (simp [errW_none, errW_some] <;> rfl) | (simp [*, errW_none, errW_some] <;> rfl), by (with_reducible repeat (first | apply Kd.R_alloc | apply Kd.R_drewN | apply Kd.R_drew)); exact HO_3.out, blw_⟩

end Go.Proofs.YtgblginphicacaaGreatDoor.PFnExactCountByFlips
