-- WRITTEN BY A PROGRAM OF THIS WORK (wip/tools/ppatch.py) for this claim.
import Derived.Test.YtgblginphicacaaDoorPFnExactFarthestByFlipsx0
import Derived.Test.YtgblginphicacaaDoorPFnExactFarthestByFlipsx5
namespace Go.Proofs.YtgblginphicacaaDoor.PFnExactFarthestByFlips
open Go.RowKit Go.Proofs.YtgblginphicacaaDoorW.PrintWords Go.Proofs.YtgblginphicacaaDoorW.PrintLast Go.Proofs.YtgblginphicacaaDoorW.PrintMore
attribute [local go_sem] max2_int min2_int max_two min_two max_three min_three max_four min_four   -- for this text's walks alone
set_option linter.unusedVariables false
set_option linter.unusedSimpArgs false

/-! ### spec_poSorted: function 52 -/
mutual
def spec_poSorted.l0 : Nat → List (S49) → List (S49) → Int → Int → Option ((List (S49)))
 | 0, _, _, _, _ => none
 | k + 1, x3, x8, x9, x10 => if x10 < x9 then (if 0 ≤ x10 then (if x10 < (x8.length : Int) then (spec_poSorted.l1 k x3 0 x8 x9 x10 ((rd_T49 x8 x10).f0) ((rd_T49 x8 x10).f1)) else (none)) else (none)) else (some x3)
def spec_poSorted.l1 : Nat → List (S49) → Int → List (S49) → Int → Int → Int → Int → Option ((List (S49)))
 | 0, _, _, _, _, _, _, _ => none
 | k + 1, x3, x6, x8, x9, x10, x149000, x149001 => if x6 < (x3.length : Int) then (if 0 ≤ x6 then ((spec_poLess.f ((rd_T49 x3 x6).f0) ((rd_T49 x3 x6).f1) x149000 x149001).bind fun t150 => (if t150 = true then (spec_poSorted.l1 k x3 (wrap64 (x6 + 1)) x8 x9 x10 x149000 x149001) else ((some (([] : List (S49)) : List (S49))).bind fun y151 => (if x6 ≤ (x3.length : Int) then ((some (x3.take (x6 : Int).toNat : List (S49))).bind fun y154 => (if y151.length + y154.length < 8796093022208 then ((some (y151 ++ y154 : List (S49))).bind fun y158 => ((some (([(⟨x149000, x149001⟩ : S49)] : List (S49)) : List (S49))).bind fun y161 => (if y158.length + y161.length < 8796093022208 then ((some (y158 ++ y161 : List (S49))).bind fun y164 => ((some (x3.drop (x6 : Int).toNat : List (S49))).bind fun y167 => (if y164.length + y167.length < 8796093022208 then (spec_poSorted.l0 k (y164 ++ y167) x8 x9 (wrap64 (x10 + 1))) else (none)))) else (none)))) else (none))) else (none))))) else (none)) else ((some (([] : List (S49)) : List (S49))).bind fun y174 => (if 0 ≤ x6 then (if x6 ≤ (x3.length : Int) then ((some (x3.take (x6 : Int).toNat : List (S49))).bind fun y177 => (if y174.length + y177.length < 8796093022208 then ((some (y174 ++ y177 : List (S49))).bind fun y181 => ((some (([(⟨x149000, x149001⟩ : S49)] : List (S49)) : List (S49))).bind fun y184 => (if y181.length + y184.length < 8796093022208 then ((some (y181 ++ y184 : List (S49))).bind fun y187 => ((some (x3.drop (x6 : Int).toNat : List (S49))).bind fun y190 => (if y187.length + y190.length < 8796093022208 then (spec_poSorted.l0 k (y187 ++ y190) x8 x9 (wrap64 (x10 + 1))) else (none)))) else (none)))) else (none))) else (none)) else (none)))
end
def spec_poSorted.f (k : Nat) (l0 : List (S49)) : Option ((List (S49))) := spec_poSorted.l0 k ([] : List (S49)) l0 (l0.length : Int) 0
theorem spec_poSorted.mono_l : ∀ k, (∀ y0 y1 y2 y3, LeO (spec_poSorted.l0 k y0 y1 y2 y3) (spec_poSorted.l0 (k + 1) y0 y1 y2 y3)) ∧ (∀ y0 y1 y2 y3 y4 y5 y6, LeO (spec_poSorted.l1 k y0 y1 y2 y3 y4 y5 y6) (spec_poSorted.l1 (k + 1) y0 y1 y2 y3 y4 y5 y6))
 | 0 => ⟨fun _ _ _ _ r h => by simp [spec_poSorted.l0] at h, fun _ _ _ _ _ _ _ r h => by simp [spec_poSorted.l1] at h⟩
 | k + 1 => by
  obtain ⟨ih0, ih1⟩ := spec_poSorted.mono_l k
  refine ⟨?_, ?_⟩
  ·intro y0 y1 y2 y3
   unfold spec_poSorted.l0
   repeat' first
   | (with_reducible exact ih0 _ _ _ _)
   | (with_reducible exact ih1 _ _ _ _ _ _ _)
   | (with_reducible exact LeO.refl _)
   | (with_reducible exact LeO.none _)
   | (with_reducible refine LeO.ite ?_ ?_)
   | (with_reducible refine LeO.bind ?_ (fun _ => ?_))
   | exact ih0 _ _ _ _
   | exact ih1 _ _ _ _ _ _ _
   | exact LeO.none _
   | refine LeO.ite ?_ ?_
   | refine LeO.bind ?_ (fun _ => ?_)
  ·intro y0 y1 y2 y3 y4 y5 y6
   unfold spec_poSorted.l1
   repeat' first
   | (with_reducible exact ih0 _ _ _ _)
   | (with_reducible exact ih1 _ _ _ _ _ _ _)
   | (with_reducible exact LeO.refl _)
   | (with_reducible exact LeO.none _)
   | (with_reducible refine LeO.ite ?_ ?_)
   | (with_reducible refine LeO.bind ?_ (fun _ => ?_))
   | exact ih0 _ _ _ _
   | exact ih1 _ _ _ _ _ _ _
   | exact LeO.none _
   | refine LeO.ite ?_ ?_
   | refine LeO.bind ?_ (fun _ => ?_)
theorem spec_poSorted.mono : ∀ a0 k, LeO (spec_poSorted.f k a0) (spec_poSorted.f (k + 1) a0) := by
 intro a0 k
 obtain ⟨ih0, ih1⟩ := spec_poSorted.mono_l k
 unfold spec_poSorted.f
 repeat' first
   | (with_reducible exact ih0 _ _ _ _)
   | (with_reducible exact ih1 _ _ _ _ _ _ _)
   | (with_reducible exact LeO.refl _)
   | (with_reducible exact LeO.none _)
   | (with_reducible refine LeO.ite ?_ ?_)
   | (with_reducible refine LeO.bind ?_ (fun _ => ?_))
   | exact ih0 _ _ _ _
   | exact ih1 _ _ _ _ _ _ _
   | exact LeO.none _
   | refine LeO.ite ?_ ?_
   | refine LeO.bind ?_ (fun _ => ?_)
def spec_poSorted.T6 : Bool × List (List Nat × List Nat) := (true, [([], []), ([], []), ([1], [1]), ([0, 2], [0, 2]), ([3], [3]), ([4], [4]), ([4], [4]), ([5, 6, 4], [4, 5, 6]), ([7, 4], [4, 7]), ([4], [4]), ([8, 9, 4, 4], [4, 8, 9]), ([4, 10], [4, 10])])
def spec_poSorted.B6 : List Nat := [0, 0, 2, 7, 15, 31, 31, 127, 255, 31, 1023, 2047]
theorem spec_poSorted.tab6 : rtab .any (opsOf Tryd.f52 6) = spec_poSorted.T6 := by kernel_rfl
theorem spec_poSorted.bits6 : waitsOk spec_poSorted.T6.2 spec_poSorted.B6 = true := by kernel_rfl
def spec_poSorted.T8 : Bool × List (List Nat × List Nat) := (true, [([], []), ([], []), ([], []), ([1, 2], [1, 2]), ([0, 3], [0, 3]), ([], []), ([5], [5]), ([4, 6, 4], [4, 6]), ([7, 7, 0, 1, 2, 3, 4, 5, 6, 7], [7])])
def spec_poSorted.B8 : List Nat := [0, 0, 0, 6, 15, 0, 32, 127, 255]
theorem spec_poSorted.tab8 : rtab .any (opsOf Tryd.f52 8) = spec_poSorted.T8 := by kernel_rfl
theorem spec_poSorted.bits8 : waitsOk spec_poSorted.T8.2 spec_poSorted.B8 = true := by kernel_rfl
set_option maxHeartbeats 8000000 in
set_option maxRecDepth 100000 in
theorem spec_poSorted.calls (k : Nat) (A0 : Option Addr) (c0 : Nat) (l0 : List (S49)) (r : List (S49)) (w : World) (hr0 : Kd.C k49 w A0 l0.length l0) (hc0 : l0.length ≤ c0) (h : spec_poSorted.f k l0 = some r) :
  Calls Tryd.prog 52 #[.slice A0 l0.length c0] w fun e w' => ∃ v0_ : Value, e = .returned (v0_) ∧ Kd.R k49 49 w' w.heap.size (fun _ => True) v0_ r ∧ Below w.heap.size w w' := by
 have hu49 := Tryd.underlying49
 have HR0 := Aside0.mk hr0
 have HC0 := Aside0.mk hc0
 clear hr0 hc0
 have HB := Aside0.mk (Below.refl w.heap.size w)
 have H : (spec_poSorted.l0 k ([] : List (S49)) l0 (l0.length : Int) 0) = some r := h
 clear h
 have H' := Aside0.mk H
 clear H
 go_enter Tryd.func52, Tryd.ntmps52
 go_wp2
 go_loopg [3, 10] k (fun kq v3 v10 w' => ∃ (x3_1 : List (S49)) (x10_1 : Int), v10 = .int .i64 x10_1 ∧ Aside0 (spec_poSorted.l0 kq x3_1 l0 (l0.length : Int) x10_1 = some r) ∧ Aside0 (kq ≤ k) ∧ Aside0 (Kd.R k49 49 w' w.heap.size (fun _ => True) v3 x3_1) ∧ Aside0 (Below w.heap.size w w'))
 case atStart => exact ⟨(([] : List (S49))), (0), rsd_, H', ⟨Nat.le_refl _⟩, ⟨by first | exact Kd.R_nil _ _ _ _ _ | exact Kd.N_nil _ _ _ _ _ | exact Kd.V_nil _ _ _ _ _ | exact Kd.Q_nil _ _ _ _ _ | exact Kd.S_nil _ _ _ _ _⟩, ⟨blw_⟩⟩
 case round =>
  clear H'
  try clear HO_3
  obtain ⟨x3_1, x10_1, rfl, HA, HK1, HO_3, HB⟩ := hrel
  cases gk with
  | zero => exact absurd HA.out (by simp [spec_poSorted.l0])
  | succ k1 =>
   have H := HA.out
   clear HA
   simp only [spec_poSorted.l0] at H
   by_cases c2 : x10_1 < (l0.length : Int)
   ·rw [if_pos c2] at H
    have c2b0 : decide (x10_1 < (l0.length : Int)) = true := decide_eq_true c2
    clear c2
    by_cases c3 : 0 ≤ x10_1
    case neg=>rw [if_neg c3] at H;exact absurd H (by simp)
    rw [if_pos c3] at H
    have c3b0 : decide (0 ≤ x10_1) = true := decide_eq_true c3
    clear c3
    by_cases c4 : x10_1 < (l0.length : Int)
    case neg=>rw [if_neg c4] at H;exact absurd H (by simp)
    rw [if_pos c4] at H
    have c4b0 : decide (x10_1 < (l0.length : Int)) = true := decide_eq_true c4
    clear c4
    have H' := Aside0.mk H
    clear H
    have p147 : 0 ≤ (x10_1 : Int) := odt_
    have q147 : x10_1 < (l0.length : Int) := odt_
    obtain ⟨ad147, e147, hx147_0, hx147_1⟩ := at_T49 HR0.out x10_1 p147 q147
    cases e147
    (first | replace hx147_0 := (HB.out.cell (World.block_lt_of_cell? w _ hx147_0)).trans hx147_0 | skip)
    (first | replace hx147_1 := (HB.out.cell (World.block_lt_of_cell? w _ hx147_1)).trans hx147_1 | skip)
    replace p147 := eq_true p147
    replace q147 := eq_true q147
    go_wp2_with (first | ((with_reducible refine gate_dst (N := 5) rfl ?_); refine bxe_ 5 #[.int .i64 0, .int .i64 0] 49 ?_; intro gb148 hg w5 hbox hb; have BK148 := Aside0.mk (hbox); have GW148 := gz_ w hg; have GE148 := gz_ w hg; replace HO_3 := Aside0.mk (Kd.R_below (Kd.R_elderB (ra_ HO_3.out) gb148 (Nat.le_of_eq hg.symm)) hb); replace HB := Aside0.mk (below_step blw_ hb); clear hb hbox hg; have hcz6_0 := blc_ (.int .i64 0) BK148 0; have hcz6_1 := blc_ (.int .i64 0) BK148 1; have hfz6_0 := blk_frozen BK148.out 0; have hfz6_1 := blk_frozen BK148.out 1))
    go_loopg [6] k1 (fun kq v6 w' => ∃ (x6_2 : Int), v6 = .int .i64 x6_2 ∧ Aside0 (spec_poSorted.l1 kq x3_1 x6_2 l0 (l0.length : Int) x10_1 ((rd_T49 l0 x10_1).f0) ((rd_T49 l0 x10_1).f1) = some r) ∧ Aside0 (kq ≤ k1) ∧ Aside0 (Kd.R k49 49 w' w.heap.size (fun k_ => k_ ≠ gb148) u3 x3_1) ∧ Aside0 (w'.heap[gb148]? = some (.cells #[.int .i64 ((rd_T49 l0 x10_1).f0), .int .i64 ((rd_T49 l0 x10_1).f1)] 49 (0, 0))) ∧ Aside0 (Below w.heap.size w w'))
    case atStart => exact ⟨(0), rsd_, H', ⟨Nat.le_refl _⟩, ⟨by (with_reducible repeat (first | apply Kd.R_alloc | apply Kd.R_drewN | apply Kd.R_drew)); exact Kd.R_mono (Kd.R_far (p := ⟨gb148, 1, none⟩) (Kd.R_far (p := ⟨gb148, 0, none⟩) (Kd.R_mono HO_3.out (fun k_ hk => (⟨hk, hk.2⟩ : _ ∧ k_ ≠ gb148))) (fun _ hk => hk.2) (.int .i64 ((rd_T49 l0 x10_1).f0))) (fun _ hk => hk.2) (.int .i64 ((rd_T49 l0 x10_1).f1))) (fun _ hk => hk.1.2)⟩, ⟨by (with_reducible repeat (first | refine blk_drewN ?_ _ | refine blk_drew ?_ | refine blk_alloc ?_ _)); refine blk_put (cs := #[.int .i64 ((rd_T49 l0 x10_1).f0), .int .i64 0]) ?_ 1 _ rfl; (with_reducible repeat (first | refine blk_drewN ?_ _ | refine blk_drew ?_ | refine blk_alloc ?_ _)); refine blk_put (cs := #[.int .i64 0, .int .i64 0]) ?_ 0 _ rfl; (with_reducible repeat (first | refine blk_drewN ?_ _ | refine blk_drew ?_ | refine blk_alloc ?_ _)); exact BK148.out⟩, ⟨bls_⟩⟩
    case round =>
     clear H'
     try clear p1
     try clear q1
     try clear hx1
     try clear c2
     try clear c2b0
     try clear p2
     try clear c3
     try clear c3b0
     try clear c4
     try clear c4b0
     try clear c5
     try clear hcz6_0
     try clear hcz6_1
     try clear hfz6_0
     try clear hfz6_1
     try clear hx147_0
     try clear hx147_1
     try clear p147
     try clear q147
     try clear HO_3
     obtain ⟨x6_2, rfl, HA, HK2, HO_3, BK148, HB⟩ := hrel
     cases gk with
     | zero => exact absurd HA.out (by simp [spec_poSorted.l1])
     | succ k2 =>
      have H := HA.out
      clear HA
      simp only [spec_poSorted.l1] at H
      by_cases c7 : x6_2 < (x3_1.length : Int)
      ·rw [if_pos c7] at H
       have c7b0 : decide (x6_2 < (x3_1.length : Int)) = true := decide_eq_true c7
       clear c7
       by_cases c8 : 0 ≤ x6_2
       case neg=>rw [if_neg c8] at H;exact absurd H (by simp)
       rw [if_pos c8] at H
       have c8b0 : decide (0 ≤ x6_2) = true := decide_eq_true c8
       clear c8
       replace H := Option.bind_eq_some_iff.mp H
       obtain ⟨t150, A90, H⟩ := H
       replace H : (if t150 = true then (spec_poSorted.l1 k2 x3_1 (wrap64 (x6_2 + 1)) l0 (l0.length : Int) x10_1 ((rd_T49 l0 x10_1).f0) ((rd_T49 l0 x10_1).f1)) else ((some (([] : List (S49)) : List (S49))).bind fun y151 => (if x6_2 ≤ (x3_1.length : Int) then ((some (x3_1.take (x6_2 : Int).toNat : List (S49))).bind fun y154 => (if y151.length + y154.length < 8796093022208 then ((some (y151 ++ y154 : List (S49))).bind fun y158 => ((some (([(⟨((rd_T49 l0 x10_1).f0), ((rd_T49 l0 x10_1).f1)⟩ : S49)] : List (S49)) : List (S49))).bind fun y161 => (if y158.length + y161.length < 8796093022208 then ((some (y158 ++ y161 : List (S49))).bind fun y164 => ((some (x3_1.drop (x6_2 : Int).toNat : List (S49))).bind fun y167 => (if y164.length + y167.length < 8796093022208 then (spec_poSorted.l0 k2 (y164 ++ y167) l0 (l0.length : Int) (wrap64 (x10_1 + 1))) else (none)))) else (none)))) else (none))) else (none)))) = some r := H
       have A9 := Aside0.mk A90
       clear A90
       by_cases c10 : t150 = true
       ·subst c10
        replace H : (spec_poSorted.l1 k2 x3_1 (wrap64 (x6_2 + 1)) l0 (l0.length : Int) x10_1 ((rd_T49 l0 x10_1).f0) ((rd_T49 l0 x10_1).f1)) = some r := by rw [if_pos rfl] at H; exact H
        have H' := Aside0.mk H
        clear H
        try go_wp2
        replace HO_3 := Aside0.mk (Kd.R_drew HO_3.out)
        replace BK148 := Aside0.mk (blk_drew BK148.out)
        replace HB := Aside0.mk (below_drew1 HB.out)
        obtain ⟨Ao12, co12, eo12⟩ := Kd.R_slice HO_3.out
        (first | subst eo12 | (injection eo12 with f1_ f2_ f3_; have f4_ := f1_.symm; have f5_ := f3_.symm; clear f1_ f2_ f3_; subst f4_; subst f5_))
        have p149 : 0 ≤ (x6_2 : Int) := odt_
        have q149 : x6_2 < (x3_1.length : Int) := odt_
        obtain ⟨ad149, e149, hx149_0, hx149_1⟩ := at_T49 (Kd.R_reads' HO_3.out).2.2 x6_2 p149 q149
        cases e149
        replace p149 := eq_true p149
        replace q149 := eq_true q149
        refine start_ (n := 12) (S := fun w' => w'.cell? ⟨gb148, 0, none⟩ = some (.int .i64 ((rd_T49 l0 x10_1).f0)) ∧ w'.cell? ⟨gb148, 1, none⟩ = some (.int .i64 ((rd_T49 l0 x10_1).f1)) ∧ w'.cell? (ad149.add ((x6_2).toNat * 2)) = some (.int .i64 ((rd_T49 x3_1 x6_2).f0)) ∧ w'.cell? ⟨(ad149.add ((x6_2).toNat * 2)).block, (ad149.add ((x6_2).toNat * 2)).off + 1, none⟩ = some (.int .i64 ((rd_T49 x3_1 x6_2).f1))) (ds := []) #[false, false, false, false, false, false, false, false, false, false, false, false] (by kernel_rfl) rfl rfl ⟨(blk_cell BK148.out 0).trans rfl, (blk_cell BK148.out 1).trans rfl, hx149_0, hx149_1⟩ (fun hHeld => ?_); refine with_tabW spec_poSorted.tab6 spec_poSorted.bits6 (fun HT_ HW_ => ?_)
        generalize wr.drew = w11 at HO_3 BK148 HB hx149_0 hx149_1 hHeld ⊢
        refine pux_ 0 14 HT_ ?_
        refine pux_ 1 15 HT_ ?_
        refine pux_ 2 16 HT_ ?_
        refine pux_ 3 17 HT_ ?_
        refine pux_ 4 18 HT_ ?_
        refine pux_ 5 19 HT_ ?_
        refine pux_ 6 20 HT_ ?_
        refine pux_ 7 21 HT_ ?_
        refine tak_ 8 22 HT_ HW_ hHeld ?_
        refine tak_ 9 23 HT_ HW_ hHeld ?_
        refine oner_ 10 24 HT_ (fun K hK => ?_)
        refine goes_ Tryd.func62 (by kernel_rfl) rfl #[.agg #[.int .i64 ((rd_T49 x3_1 x6_2).f0), .int .i64 ((rd_T49 x3_1 x6_2).f1)], .agg #[.int .i64 ((rd_T49 l0 x10_1).f0), .int .i64 ((rd_T49 l0 x10_1).f1)]] (by rfl) rfl rfl amp_ ?_
        with_reducible refine (spec_poLess.calls ((rd_T49 x3_1 x6_2).f0) ((rd_T49 x3_1 x6_2).f1) ((rd_T49 l0 x10_1).f0) ((rd_T49 l0 x10_1).f1) true _ A9.out).mono ?_
        rintro e w13 ⟨rfl, hb⟩
        have HS2_ := (hb.cell (World.block_lt_of_cell? _ _ (hHeld.2.2.1))).trans (hHeld.2.2.1)
        have HS3_ := (hb.cell (World.block_lt_of_cell? _ _ (hHeld.2.2.2))).trans (hHeld.2.2.2)
        refine ⟨_, rfl, ?_⟩
        replace HO_3 := Aside0.mk (Kd.R_below (ra_ HO_3.out) hb)
        replace BK148 := bb_ BK148 hb
        replace HB := Aside0.mk (below_step bls_ hb)
        (try clear hb)
        (try clear hb2)
        (try clear hk)
        (try clear hi)
        refine hK.out _ _ ⟨(blk_cell BK148.out 0).trans rfl, (blk_cell BK148.out 1).trans rfl, HS2_, HS3_⟩ (fun hHeld => ?_)
        clear hK K
        refine nor_ 24 ?_
        refine pux_ 11 25 HT_ ?_
        refine done_ (done_of HT_.out (by kernel_rfl)) ?_
        try go_wp2
        go_roundg k2
        case measure => have := HK1.out; have := HK2.out; omega
        case rel => exact ⟨(wrap64 (x6_2 + 1)), rsd_, H', ⟨by have := HK1.out; have := HK2.out; omega⟩, ⟨ra_ HO_3.out⟩, ⟨bk_ BK148.out⟩, ⟨bls_⟩⟩
       ·replace c10 := Bool.eq_false_iff.mpr c10
        subst c10
        replace H : ((some (([] : List (S49)) : List (S49))).bind fun y151 => (if x6_2 ≤ (x3_1.length : Int) then ((some (x3_1.take (x6_2 : Int).toNat : List (S49))).bind fun y154 => (if y151.length + y154.length < 8796093022208 then ((some (y151 ++ y154 : List (S49))).bind fun y158 => ((some (([(⟨((rd_T49 l0 x10_1).f0), ((rd_T49 l0 x10_1).f1)⟩ : S49)] : List (S49)) : List (S49))).bind fun y161 => (if y158.length + y161.length < 8796093022208 then ((some (y158 ++ y161 : List (S49))).bind fun y164 => ((some (x3_1.drop (x6_2 : Int).toNat : List (S49))).bind fun y167 => (if y164.length + y167.length < 8796093022208 then (spec_poSorted.l0 k2 (y164 ++ y167) l0 (l0.length : Int) (wrap64 (x10_1 + 1))) else (none)))) else (none)))) else (none))) else (none))) = some r := by rw [if_neg (show ¬ (false = true) by decide)] at H; exact H
        obtain ⟨y151, hy151⟩ : ∃ y_ : List (S49), y_ = (([] : List (S49))) := ⟨_, rfl⟩
        replace H : (if x6_2 ≤ (x3_1.length : Int) then ((some (x3_1.take (x6_2 : Int).toNat : List (S49))).bind fun y154 => (if y151.length + y154.length < 8796093022208 then ((some (y151 ++ y154 : List (S49))).bind fun y158 => ((some (([(⟨((rd_T49 l0 x10_1).f0), ((rd_T49 l0 x10_1).f1)⟩ : S49)] : List (S49)) : List (S49))).bind fun y161 => (if y158.length + y161.length < 8796093022208 then ((some (y158 ++ y161 : List (S49))).bind fun y164 => ((some (x3_1.drop (x6_2 : Int).toNat : List (S49))).bind fun y167 => (if y164.length + y167.length < 8796093022208 then (spec_poSorted.l0 k2 (y164 ++ y167) l0 (l0.length : Int) (wrap64 (x10_1 + 1))) else (none)))) else (none)))) else (none))) else (none)) = some r := hyy_ hy151 H
        have Ny151 := Aside0.mk hy151
        clear hy151
        have c14b0 := eq_true (odt_ : 0 ≤ x6_2)
        by_cases c15 : x6_2 ≤ (x3_1.length : Int)
        case neg=>rw [if_neg c15] at H;exact absurd H (by simp)
        rw [if_pos c15] at H
        have c15b0 := eq_true c15
        have c15b1 : decide (x6_2 ≤ (x3_1.length : Int)) = true := decide_eq_true c15
        clear c15
        obtain ⟨y154, hy154⟩ : ∃ y_ : List (S49), y_ = (x3_1.take (x6_2 : Int).toNat) := ⟨_, rfl⟩
        replace H : (if y151.length + y154.length < 8796093022208 then ((some (y151 ++ y154 : List (S49))).bind fun y158 => ((some (([(⟨((rd_T49 l0 x10_1).f0), ((rd_T49 l0 x10_1).f1)⟩ : S49)] : List (S49)) : List (S49))).bind fun y161 => (if y158.length + y161.length < 8796093022208 then ((some (y158 ++ y161 : List (S49))).bind fun y164 => ((some (x3_1.drop (x6_2 : Int).toNat : List (S49))).bind fun y167 => (if y164.length + y167.length < 8796093022208 then (spec_poSorted.l0 k2 (y164 ++ y167) l0 (l0.length : Int) (wrap64 (x10_1 + 1))) else (none)))) else (none)))) else (none)) = some r := hyy_ hy154 H
        have Ny154 := Aside0.mk hy154
        clear hy154
        by_cases c16 : y151.length + y154.length < 8796093022208
        case neg=>rw [if_neg c16] at H;exact absurd H (by simp)
        rw [if_pos c16] at H
        have LMc16 := Aside0.mk c16
        clear c16
        obtain ⟨y158, hy158⟩ : ∃ y_ : List (S49), y_ = (y151 ++ y154) := ⟨_, rfl⟩
        replace H : ((some (([(⟨((rd_T49 l0 x10_1).f0), ((rd_T49 l0 x10_1).f1)⟩ : S49)] : List (S49)) : List (S49))).bind fun y161 => (if y158.length + y161.length < 8796093022208 then ((some (y158 ++ y161 : List (S49))).bind fun y164 => ((some (x3_1.drop (x6_2 : Int).toNat : List (S49))).bind fun y167 => (if y164.length + y167.length < 8796093022208 then (spec_poSorted.l0 k2 (y164 ++ y167) l0 (l0.length : Int) (wrap64 (x10_1 + 1))) else (none)))) else (none))) = some r := hyy_ hy158 H
        have Ny158 := Aside0.mk hy158
        clear hy158
        obtain ⟨y161, hy161⟩ : ∃ y_ : List (S49), y_ = (([(⟨((rd_T49 l0 x10_1).f0), ((rd_T49 l0 x10_1).f1)⟩ : S49)] : List (S49))) := ⟨_, rfl⟩
        replace H : (if y158.length + y161.length < 8796093022208 then ((some (y158 ++ y161 : List (S49))).bind fun y164 => ((some (x3_1.drop (x6_2 : Int).toNat : List (S49))).bind fun y167 => (if y164.length + y167.length < 8796093022208 then (spec_poSorted.l0 k2 (y164 ++ y167) l0 (l0.length : Int) (wrap64 (x10_1 + 1))) else (none)))) else (none)) = some r := hyy_ hy161 H
        have Ny161 := Aside0.mk hy161
        clear hy161
        by_cases c17 : y158.length + y161.length < 8796093022208
        case neg=>rw [if_neg c17] at H;exact absurd H (by simp)
        rw [if_pos c17] at H
        have LMc17 := Aside0.mk c17
        clear c17
        obtain ⟨y164, hy164⟩ : ∃ y_ : List (S49), y_ = (y158 ++ y161) := ⟨_, rfl⟩
        replace H : ((some (x3_1.drop (x6_2 : Int).toNat : List (S49))).bind fun y167 => (if y164.length + y167.length < 8796093022208 then (spec_poSorted.l0 k2 (y164 ++ y167) l0 (l0.length : Int) (wrap64 (x10_1 + 1))) else (none))) = some r := hyy_ hy164 H
        have Ny164 := Aside0.mk hy164
        clear hy164
        have c18b0 := eq_true (odt_ : 0 ≤ x6_2)
        have c19b0 := eq_true (odt_ : x6_2 ≤ (x3_1.length : Int))
        obtain ⟨y167, hy167⟩ : ∃ y_ : List (S49), y_ = (x3_1.drop (x6_2 : Int).toNat) := ⟨_, rfl⟩
        replace H : (if y164.length + y167.length < 8796093022208 then (spec_poSorted.l0 k2 (y164 ++ y167) l0 (l0.length : Int) (wrap64 (x10_1 + 1))) else (none)) = some r := hyy_ hy167 H
        have Ny167 := Aside0.mk hy167
        clear hy167
        by_cases c20 : y164.length + y167.length < 8796093022208
        case neg=>rw [if_neg c20] at H;exact absurd H (by simp)
        rw [if_pos c20] at H
        have LMc20 := Aside0.mk c20
        clear c20
        obtain ⟨y171, hy171⟩ : ∃ y_ : List (S49), y_ = (y164 ++ y167) := ⟨_, rfl⟩
        replace H : (spec_poSorted.l0 k2 y171 l0 (l0.length : Int) (wrap64 (x10_1 + 1))) = some r := hyy_ hy171 H
        have Ny171 := Aside0.mk hy171
        clear hy171
        have H' := Aside0.mk H
        clear H
        try go_wp2
        replace HO_3 := Aside0.mk (Kd.R_drew HO_3.out)
        replace BK148 := Aside0.mk (blk_drew BK148.out)
        replace HB := Aside0.mk (below_drew1 HB.out)
        obtain ⟨Ao22, co22, eo22⟩ := Kd.R_slice HO_3.out
        (first | subst eo22 | (injection eo22 with f1_ f2_ f3_; have f4_ := f1_.symm; have f5_ := f3_.symm; clear f1_ f2_ f3_; subst f4_; subst f5_))
        have p149 : 0 ≤ (x6_2 : Int) := odt_
        have q149 : x6_2 < (x3_1.length : Int) := odt_
        obtain ⟨ad149, e149, hx149_0, hx149_1⟩ := at_T49 (Kd.R_reads' HO_3.out).2.2 x6_2 p149 q149
        cases e149
        replace p149 := eq_true p149
        replace q149 := eq_true q149
        refine start_ (n := 12) (S := fun w' => w'.cell? ⟨gb148, 0, none⟩ = some (.int .i64 ((rd_T49 l0 x10_1).f0)) ∧ w'.cell? ⟨gb148, 1, none⟩ = some (.int .i64 ((rd_T49 l0 x10_1).f1)) ∧ w'.cell? (ad149.add ((x6_2).toNat * 2)) = some (.int .i64 ((rd_T49 x3_1 x6_2).f0)) ∧ w'.cell? ⟨(ad149.add ((x6_2).toNat * 2)).block, (ad149.add ((x6_2).toNat * 2)).off + 1, none⟩ = some (.int .i64 ((rd_T49 x3_1 x6_2).f1))) (ds := []) #[false, false, false, false, false, false, false, false, false, false, false, false] (by kernel_rfl) rfl rfl ⟨(blk_cell BK148.out 0).trans rfl, (blk_cell BK148.out 1).trans rfl, hx149_0, hx149_1⟩ (fun hHeld => ?_); refine with_tabW spec_poSorted.tab6 spec_poSorted.bits6 (fun HT_ HW_ => ?_)
        generalize wr.drew = w21 at HO_3 BK148 HB hx149_0 hx149_1 hHeld ⊢
        refine pux_ 0 14 HT_ ?_
        refine pux_ 1 15 HT_ ?_
        refine pux_ 2 16 HT_ ?_
        refine pux_ 3 17 HT_ ?_
        refine pux_ 4 18 HT_ ?_
        refine pux_ 5 19 HT_ ?_
        refine pux_ 6 20 HT_ ?_
        refine pux_ 7 21 HT_ ?_
        refine tak_ 8 22 HT_ HW_ hHeld ?_
        refine tak_ 9 23 HT_ HW_ hHeld ?_
        refine oner_ 10 24 HT_ (fun K hK => ?_)
        refine goes_ Tryd.func62 (by kernel_rfl) rfl #[.agg #[.int .i64 ((rd_T49 x3_1 x6_2).f0), .int .i64 ((rd_T49 x3_1 x6_2).f1)], .agg #[.int .i64 ((rd_T49 l0 x10_1).f0), .int .i64 ((rd_T49 l0 x10_1).f1)]] (by rfl) rfl rfl amp_ ?_
        with_reducible refine (spec_poLess.calls ((rd_T49 x3_1 x6_2).f0) ((rd_T49 x3_1 x6_2).f1) ((rd_T49 l0 x10_1).f0) ((rd_T49 l0 x10_1).f1) false _ A9.out).mono ?_
        rintro e w23 ⟨rfl, hb⟩
        have HS2_ := (hb.cell (World.block_lt_of_cell? _ _ (hHeld.2.2.1))).trans (hHeld.2.2.1)
        have HS3_ := (hb.cell (World.block_lt_of_cell? _ _ (hHeld.2.2.2))).trans (hHeld.2.2.2)
        refine ⟨_, rfl, ?_⟩
        replace HO_3 := Aside0.mk (Kd.R_below (ra_ HO_3.out) hb)
        replace BK148 := bb_ BK148 hb
        replace HB := Aside0.mk (below_step bls_ hb)
        (try clear hb)
        (try clear hb2)
        (try clear hk)
        (try clear hi)
        refine hK.out _ _ ⟨(blk_cell BK148.out 0).trans rfl, (blk_cell BK148.out 1).trans rfl, HS2_, HS3_⟩ (fun hHeld => ?_)
        clear hK K
        refine nor_ 24 ?_
        refine pux_ 11 25 HT_ ?_
        refine done_ (done_of HT_.out (by kernel_rfl)) ?_
        try go_wp2
        replace HO_3 := Aside0.mk (Kd.R_drew HO_3.out)
        replace BK148 := Aside0.mk (blk_drew BK148.out)
        replace HB := Aside0.mk (below_drew1 HB.out)
        have q25 : (x6_2 : Int) ≤ ((x3_1.length : Int) : Int) := odt_
        obtain ⟨i025, hi025, _, hsz25, _⟩ := info_parts info49
        have hroom25 : x3_1.length ≤ co22 := (Kd.R_reads' HO_3.out).2.1
        have hC25 : Kd.C k49 _ (some ad149) x3_1.length x3_1 := (Kd.R_reads' HO_3.out).2.2
        have hcut25 := cut_to (P := Tryd.prog) 28 49 .i64 Tryd.underlying28 hi025 (some ad149) x3_1.length co22 x6_2 (odt_) q25 hroom25
        have hr25 := Kd.C_take (m := (x6_2 : Int).toNat) hC25 (by omega)
        have hy25 : y154.length = (x6_2 : Int).toNat := (by rw [Ny154.out, List.length_take]; omega)
        rw [← Ny154.out] at hr25
        rw [← hy25] at hcut25
        have HR157 := Aside0.mk hr25
        have HC157 := Aside0.mk (show y154.length ≤ co22 from by omega)
        clear hr25 hC25 hroom25 hi025 hsz25
        have KY25 := Aside0.mk hy25
        clear hy25
        have KL25 := Aside0.mk (show (x6_2 : Int).toNat ≤ x3_1.length from by omega)
        replace q25 := eq_true q25
        refine start_ (n := 9) (S := fun w' => w'.cell? ⟨gb148, 0, none⟩ = some (.int .i64 ((rd_T49 l0 x10_1).f0)) ∧ w'.cell? ⟨gb148, 1, none⟩ = some (.int .i64 ((rd_T49 l0 x10_1).f1))) (ds := []) #[false, false, false, false, false, false, false, false, false] (by kernel_rfl) rfl rfl ⟨(blk_cell BK148.out 0).trans rfl, (blk_cell BK148.out 1).trans rfl⟩ (fun hHeld => ?_); refine with_tabW spec_poSorted.tab8 spec_poSorted.bits8 (fun HT_ HW_ => ?_)
        generalize w23.drew = w24 at HO_3 BK148 HB HR157 hHeld ⊢
        refine pux_ 1 29 HT_ ?_
        refine pux_ 2 30 HT_ ?_
        refine pux_ 3 31 HT_ ?_
        refine tak_ 5 33 HT_ HW_ hHeld ?_
        refine join_ (σ := Value × Value × Value) 2 #[true, true, true, true, true, true, true, false, false] (fun s_ => [(28, s_.1), (32, s_.2.1), (34, s_.2.2)]) (fun s_ w' => (w'.cell? ⟨gb148, 0, none⟩ = some (.int .i64 ((rd_T49 l0 x10_1).f0)) ∧ w'.cell? ⟨gb148, 1, none⟩ = some (.int .i64 ((rd_T49 l0 x10_1).f1))) ∧ (Kd.R k49 49 w' w.heap.size (fun k_ => some k_ ≠ (s_.2.2 : Value).ownBlock ∧ some k_ ≠ (.slice (some ad149) x3_1.length co22 : Value).ownBlock ∧ k_ ≠ gb148) s_.2.1 y158) ∧ (Kd.R k49 49 w' w.heap.size (fun k_ => some k_ ≠ (s_.2.1 : Value).ownBlock ∧ some k_ ≠ (.slice (some ad149) x3_1.length co22 : Value).ownBlock ∧ k_ ≠ gb148) s_.2.2 y161) ∧ (Kd.R k49 49 w' w.heap.size (fun k_ => some k_ ≠ (s_.2.1 : Value).ownBlock ∧ some k_ ≠ (s_.2.2 : Value).ownBlock ∧ k_ ≠ gb148) (.slice (some ad149) x3_1.length co22) x3_1) ∧ (w'.heap[gb148]? = some (.cells #[.int .i64 ((rd_T49 l0 x10_1).f0), .int .i64 ((rd_T49 l0 x10_1).f1)] 49 (0, 0))) ∧ (Below w.heap.size w w')) ?_ ?_
        rotate_left
        ·intro hCont
         refine two_ (i := 0) (j := 6) (Ni := some 28) (Nj := some 34) #[true, true, true, true, false, true, false, false, false] #[false, true, true, true, false, true, true, false, false] rfl rfl rfl rfl (two_of HT_.out (by kernel_rfl)) (by decide) (by decide) (fun K hK => ?_) (fun K hK => ?_)
         ·skip
          refine Kd.R_lit_step k49 _ 49 ?hg (N := 28) ?hd (xs := ([] : List (S49))) (inner := []) (ok := fun _ => True) (okp := fun _ => True) ?hr ?hp (fun _ hk => hk) trivial (Below.refl _ _) (Nat.le_refl _) (by simp) ?_; (case hd => rfl); (case hg => rfl); (case hr => first | (go_simp; done) | (go_simp; rfl)); (case hp => exact (Reps.none _ _))
          intro v152 w26 ho27 hb hg_ hnew_
          clear hg_ hnew_
          (first | rw [← Ny151.out] at ho27 | (simp only [Int.reduceToNat] at ho27; rw [← Ny151.out] at ho27))
          have HO153 := Aside0.mk (Kd.R_lower (Kd.R_newB (Kd.R_new' ho27 (Kd.R_lt (ra_ HO_3.out))) (g := gb148) (o := .cells #[.int .i64 ((rd_T49 l0 x10_1).f0), .int .i64 ((rd_T49 l0 x10_1).f1)] 49 (0, 0)) (bk_ BK148.out)) (below_size bls_))
          replace HO_3 := Aside0.mk (Kd.R_elder' (ra_ HO_3.out) (Kd.R_base ho27) hb)
          replace BK148 := bb_ BK148 hb
          replace HR157 := Aside0.mk (Kd.C_below (by repeat (first | (with_reducible exact HR157.out) | (with_reducible refine Kd.C_alloc ?_ _) | (with_reducible refine Kd.C_drewN ?_ _) | (with_reducible refine Kd.C_drew ?_) | exact HR157.out)) hb)
          replace HB := Aside0.mk (below_step bls_ hb)
          clear hb ho27
          refine hK.out _ _ ⟨(blk_cell BK148.out 0).trans rfl, (blk_cell BK148.out 1).trans rfl⟩ (fun hHeld => ?_)
          clear hK K
          refine nor_ 28 ?_
          refine two_ (i := 4) (j := 6) (Ni := some 32) (Nj := some 34) #[true, true, true, true, true, true, false, false, false] #[true, true, true, true, false, true, true, false, false] rfl rfl rfl rfl (two_of HT_.out (by kernel_rfl)) (by decide) (by decide) (fun K hK => ?_) (fun K hK => ?_)
          ·skip
           refine Kd.R_append_rows_step k49 (w0 := w) w.heap.size (by rfl) (.tmp 28) (.tmp 31) 28 49 (.agg #[(.int .i64 0), (.int .i64 0)]) 16 rfl Tryd.underlying28 info49 rfl (by decide) (by omega) v152 y151 y154 _ _ _ (fun k_ => some k_ ≠ (.slice (some ad149) x3_1.length co22 : Value).ownBlock ∧ k_ ≠ gb148) (fun _ => False) rfl rfl ?aO ?aR (fun _ _ h => h) (fun _ h => h.elim) ?aF ?aB ?aS ?aL ?_
           (case aR => repeat (first | exact (by repeat (first | (with_reducible exact HR157.out) | (with_reducible refine Kd.C_alloc ?_ _) | (with_reducible refine Kd.C_drewN ?_ _) | (with_reducible refine Kd.C_drew ?_) | exact HR157.out)) | (with_reducible refine Kd.C_alloc ?_ _) | (with_reducible refine Kd.C_drewN ?_ _) | (with_reducible refine Kd.C_drew ?_)))
           (case aB => exact bls_)
           (case aF => exact (fun k_ hk => ⟨Kd.fresh' (Kd.R_lt (ra_ HO_3.out)) k_ hk, Kd.freshB (g := gb148) (o := .cells #[.int .i64 ((rd_T49 l0 x10_1).f0), .int .i64 ((rd_T49 l0 x10_1).f1)] 49 (0, 0)) (bk_ BK148.out) k_ hk⟩))
           (case aO => exact (by (with_reducible repeat (first | apply Kd.R_alloc | apply Kd.R_drewN | apply Kd.R_drew)); exact Kd.R_mono HO153.out (fun _ hk => ⟨hk.1.2, hk.2⟩)))
           (case aS => exact (below_size bls_))
           (case aL => have := LMc16.out; omega)
           intro v159 w28 ho hb hg hat
           rw [← Ny158.out] at ho
           have HO160 := Aside0.mk (ho)
           replace BK148 := Aside0.mk (blk_grown (g := gb148) (o := .cells #[.int .i64 ((rd_T49 l0 x10_1).f0), .int .i64 ((rd_T49 l0 x10_1).f1)] 49 (0, 0)) (bk_ BK148.out) hg (Kd.R_away HO153.out (fun _ hk => hk.2)))
           replace HB := Aside0.mk (hb)
           replace HR157 := Aside0.mk ((show Kd.C k49 w28 (some ad149) y154.length y154 from by rw [Ny154.out]; exact Kd.C_take (m := (x6_2 : Int).toNat) ((Kd.R_reads' (Kd.R_after (ok := (fun k_ => k_ ≠ gb148)) (ra_ HO_3.out) hg hat)).2.2) KL25.out))
           replace HO_3 := Aside0.mk (Kd.R_after (ok := (fun k_ => k_ ≠ gb148)) (ra_ HO_3.out) hg hat)
           clear HO153
           clear ho hb hg hat
           refine hK.out _ _ ⟨(blk_cell BK148.out 0).trans rfl, (blk_cell BK148.out 1).trans rfl⟩ (fun hHeld => ?_)
           clear hK K
           refine nor_ 32 ?_
           refine oner_ 6 34 HT_ (fun K hK => ?_)
           refine Kd.R_lit_step k49 _ 49 ?hg (N := 34) ?hd (xs := ([(⟨((rd_T49 l0 x10_1).f0), ((rd_T49 l0 x10_1).f1)⟩ : S49)] : List (S49))) (inner := [.int .i64 ((rd_T49 l0 x10_1).f0), .int .i64 ((rd_T49 l0 x10_1).f1)]) (ok := fun _ => True) (okp := fun _ => True) ?hr ?hp (fun _ hk => hk) trivial (Below.refl _ _) (Nat.le_refl _) (by simp) ?_; (case hd => rfl); (case hg => rfl); (case hr => first | (go_simp; done) | (go_simp; rfl)); (case hp => exact (Reps.c2 (show Kd.M k49 _ _ _ (⟨((rd_T49 l0 x10_1).f0), ((rd_T49 l0 x10_1).f1)⟩ : S49) [.int .i64 ((rd_T49 l0 x10_1).f0), .int .i64 ((rd_T49 l0 x10_1).f1)] from (k49_mkM _ _ _ (⟨((rd_T49 l0 x10_1).f0), ((rd_T49 l0 x10_1).f1)⟩ : S49) )) (Reps.none _ _)))
           intro v162 w29 ho30 hb hg_ hnew_
           clear hg_ hnew_
           (first | rw [← Ny161.out] at ho30 | (simp only [Int.reduceToNat] at ho30; rw [← Ny161.out] at ho30))
           have HO163 := Aside0.mk (Kd.R_lower (Kd.R_newB (Kd.R_new' (Kd.R_new' ho30 (Kd.R_lt (ra_ HO_3.out))) (Kd.R_lt (ra_ HO160.out))) (g := gb148) (o := .cells #[.int .i64 ((rd_T49 l0 x10_1).f0), .int .i64 ((rd_T49 l0 x10_1).f1)] 49 (0, 0)) (bk_ BK148.out)) (below_size bls_))
           replace HO_3 := Aside0.mk (Kd.R_elder' (ra_ HO_3.out) (Kd.R_base ho30) hb)
           replace HO160 := Aside0.mk (Kd.R_elder' (ra_ HO160.out) (Kd.R_base ho30) hb)
           replace BK148 := bb_ BK148 hb
           replace HR157 := Aside0.mk (Kd.C_below (by repeat (first | (with_reducible exact HR157.out) | (with_reducible refine Kd.C_alloc ?_ _) | (with_reducible refine Kd.C_drewN ?_ _) | (with_reducible refine Kd.C_drew ?_) | exact HR157.out)) hb)
           replace HB := Aside0.mk (below_step bls_ hb)
           clear hb ho30
           refine hK.out _ _ ⟨(blk_cell BK148.out 0).trans rfl, (blk_cell BK148.out 1).trans rfl⟩ (fun hHeld => ?_)
           clear hK K
           refine nor_ 34 ?_
           exact norm_ (by simp only [putAll, Act.put, List.setIfInBounds_toArray, List.set_cons_zero, List.set_cons_succ]) (hCont (v152, v159, v162) _ ⟨hHeld, (by (with_reducible repeat (first | apply Kd.R_alloc | apply Kd.R_drewN | apply Kd.R_drew)); exact Kd.R_mono HO160.out (fun _ hk => ⟨hk.2, ⟨hk.1.1, hk.1.2⟩⟩)), (by (with_reducible repeat (first | apply Kd.R_alloc | apply Kd.R_drewN | apply Kd.R_drew)); exact Kd.R_mono HO163.out (fun _ hk => ⟨hk.1.2, ⟨hk.1.1.2, hk.2⟩⟩)), (by (with_reducible repeat (first | apply Kd.R_alloc | apply Kd.R_drewN | apply Kd.R_drew)); exact Kd.R_mono HO_3.out (fun _ hk => ⟨hk.1.2, ⟨hk.2, hk.1.1⟩⟩)), (bk_ BK148.out), bls_⟩)
          ·skip
           refine Kd.R_lit_step k49 _ 49 ?hg (N := 34) ?hd (xs := ([(⟨((rd_T49 l0 x10_1).f0), ((rd_T49 l0 x10_1).f1)⟩ : S49)] : List (S49))) (inner := [.int .i64 ((rd_T49 l0 x10_1).f0), .int .i64 ((rd_T49 l0 x10_1).f1)]) (ok := fun _ => True) (okp := fun _ => True) ?hr ?hp (fun _ hk => hk) trivial (Below.refl _ _) (Nat.le_refl _) (by simp) ?_; (case hd => rfl); (case hg => rfl); (case hr => first | (go_simp; done) | (go_simp; rfl)); (case hp => exact (Reps.c2 (show Kd.M k49 _ _ _ (⟨((rd_T49 l0 x10_1).f0), ((rd_T49 l0 x10_1).f1)⟩ : S49) [.int .i64 ((rd_T49 l0 x10_1).f0), .int .i64 ((rd_T49 l0 x10_1).f1)] from (k49_mkM _ _ _ (⟨((rd_T49 l0 x10_1).f0), ((rd_T49 l0 x10_1).f1)⟩ : S49) )) (Reps.none _ _)))
           intro v162 w28 ho29 hb hg_ hnew_
           clear hg_ hnew_
           (first | rw [← Ny161.out] at ho29 | (simp only [Int.reduceToNat] at ho29; rw [← Ny161.out] at ho29))
           have HO163 := Aside0.mk (Kd.R_lower (Kd.R_newB (Kd.R_new' (Kd.R_new' ho29 (Kd.R_lt (ra_ HO_3.out))) (Kd.R_lt (ra_ HO153.out))) (g := gb148) (o := .cells #[.int .i64 ((rd_T49 l0 x10_1).f0), .int .i64 ((rd_T49 l0 x10_1).f1)] 49 (0, 0)) (bk_ BK148.out)) (below_size bls_))
           replace HO_3 := Aside0.mk (Kd.R_elder' (ra_ HO_3.out) (Kd.R_base ho29) hb)
           replace HO153 := Aside0.mk (Kd.R_elder' (ra_ HO153.out) (Kd.R_base ho29) hb)
           replace BK148 := bb_ BK148 hb
           replace HR157 := Aside0.mk (Kd.C_below (by repeat (first | (with_reducible exact HR157.out) | (with_reducible refine Kd.C_alloc ?_ _) | (with_reducible refine Kd.C_drewN ?_ _) | (with_reducible refine Kd.C_drew ?_) | exact HR157.out)) hb)
           replace HB := Aside0.mk (below_step bls_ hb)
           clear hb ho29
           refine hK.out _ _ ⟨(blk_cell BK148.out 0).trans rfl, (blk_cell BK148.out 1).trans rfl⟩ (fun hHeld => ?_)
           clear hK K
           refine nor_ 34 ?_
           refine oner_ 4 32 HT_ (fun K hK => ?_)
           refine Kd.R_append_rows_step k49 (w0 := w) w.heap.size (by rfl) (.tmp 28) (.tmp 31) 28 49 (.agg #[(.int .i64 0), (.int .i64 0)]) 16 rfl Tryd.underlying28 info49 rfl (by decide) (by omega) v152 y151 y154 _ _ _ (fun k_ => some k_ ≠ (.slice (some ad149) x3_1.length co22 : Value).ownBlock ∧ some k_ ≠ (v162 : Value).ownBlock ∧ k_ ≠ gb148) (fun _ => False) rfl rfl ?aO ?aR (fun _ _ h => h) (fun _ h => h.elim) ?aF ?aB ?aS ?aL ?_
           (case aR => repeat (first | exact (by repeat (first | (with_reducible exact HR157.out) | (with_reducible refine Kd.C_alloc ?_ _) | (with_reducible refine Kd.C_drewN ?_ _) | (with_reducible refine Kd.C_drew ?_) | exact HR157.out)) | (with_reducible refine Kd.C_alloc ?_ _) | (with_reducible refine Kd.C_drewN ?_ _) | (with_reducible refine Kd.C_drew ?_)))
           (case aB => exact bls_)
           (case aF => exact (fun k_ hk => ⟨Kd.fresh' (Kd.R_lt (ra_ HO_3.out)) k_ hk, Kd.fresh' (Kd.R_lt (ra_ HO163.out)) k_ hk, Kd.freshB (g := gb148) (o := .cells #[.int .i64 ((rd_T49 l0 x10_1).f0), .int .i64 ((rd_T49 l0 x10_1).f1)] 49 (0, 0)) (bk_ BK148.out) k_ hk⟩))
           (case aO => exact (by (with_reducible repeat (first | apply Kd.R_alloc | apply Kd.R_drewN | apply Kd.R_drew)); exact Kd.R_mono HO153.out (fun _ hk => ⟨hk.1.1.2, ⟨hk.2, hk.1.2⟩⟩)))
           (case aS => exact (below_size bls_))
           (case aL => have := LMc16.out; omega)
           intro v159 w30 ho hb hg hat
           rw [← Ny158.out] at ho
           have HO160 := Aside0.mk (ho)
           replace BK148 := Aside0.mk (blk_grown (g := gb148) (o := .cells #[.int .i64 ((rd_T49 l0 x10_1).f0), .int .i64 ((rd_T49 l0 x10_1).f1)] 49 (0, 0)) (bk_ BK148.out) hg (Kd.R_away HO153.out (fun _ hk => hk.1.2)))
           replace HO163 := Aside0.mk (Kd.R_after (ok := (fun k_ => some k_ ≠ (.slice (some ad149) x3_1.length co22 : Value).ownBlock ∧ k_ ≠ gb148)) (by (with_reducible repeat (first | apply Kd.R_alloc | apply Kd.R_drewN | apply Kd.R_drew)); exact Kd.R_mono HO163.out (fun _ hk => ⟨⟨hk.1.1.2, hk.2⟩, hk.1.2⟩)) hg hat)
           replace HB := Aside0.mk (hb)
           replace HR157 := Aside0.mk ((show Kd.C k49 w30 (some ad149) y154.length y154 from by rw [Ny154.out]; exact Kd.C_take (m := (x6_2 : Int).toNat) ((Kd.R_reads' (Kd.R_after (ok := (fun k_ => some k_ ≠ (v162 : Value).ownBlock ∧ k_ ≠ gb148)) (by (with_reducible repeat (first | apply Kd.R_alloc | apply Kd.R_drewN | apply Kd.R_drew)); exact Kd.R_mono HO_3.out (fun _ hk => ⟨⟨hk.2, hk.1.1⟩, hk.1.2⟩)) hg hat)).2.2) KL25.out))
           replace HO_3 := Aside0.mk (Kd.R_after (ok := (fun k_ => some k_ ≠ (v162 : Value).ownBlock ∧ k_ ≠ gb148)) (by (with_reducible repeat (first | apply Kd.R_alloc | apply Kd.R_drewN | apply Kd.R_drew)); exact Kd.R_mono HO_3.out (fun _ hk => ⟨⟨hk.2, hk.1.1⟩, hk.1.2⟩)) hg hat)
           clear HO153
           clear ho hb hg hat
           refine hK.out _ _ ⟨(blk_cell BK148.out 0).trans rfl, (blk_cell BK148.out 1).trans rfl⟩ (fun hHeld => ?_)
           clear hK K
           refine nor_ 32 ?_
           exact norm_ (by simp only [putAll, Act.put, List.setIfInBounds_toArray, List.set_cons_zero, List.set_cons_succ]) (hCont (v152, v159, v162) _ ⟨hHeld, (by (with_reducible repeat (first | apply Kd.R_alloc | apply Kd.R_drewN | apply Kd.R_drew)); exact Kd.R_mono HO160.out (fun _ hk => ⟨hk.2.1, ⟨hk.1, hk.2.2⟩⟩)), (by (with_reducible repeat (first | apply Kd.R_alloc | apply Kd.R_drewN | apply Kd.R_drew)); exact Kd.R_mono HO163.out (fun _ hk => ⟨hk.2, ⟨hk.1.1, hk.1.2⟩⟩)), (by (with_reducible repeat (first | apply Kd.R_alloc | apply Kd.R_drewN | apply Kd.R_drew)); exact Kd.R_mono HO_3.out (fun _ hk => ⟨hk.2, ⟨hk.1.1, hk.1.2⟩⟩)), (bk_ BK148.out), bls_⟩)
         ·skip
          refine Kd.R_lit_step k49 _ 49 ?hg (N := 34) ?hd (xs := ([(⟨((rd_T49 l0 x10_1).f0), ((rd_T49 l0 x10_1).f1)⟩ : S49)] : List (S49))) (inner := [.int .i64 ((rd_T49 l0 x10_1).f0), .int .i64 ((rd_T49 l0 x10_1).f1)]) (ok := fun _ => True) (okp := fun _ => True) ?hr ?hp (fun _ hk => hk) trivial (Below.refl _ _) (Nat.le_refl _) (by simp) ?_; (case hd => rfl); (case hg => rfl); (case hr => first | (go_simp; done) | (go_simp; rfl)); (case hp => exact (Reps.c2 (show Kd.M k49 _ _ _ (⟨((rd_T49 l0 x10_1).f0), ((rd_T49 l0 x10_1).f1)⟩ : S49) [.int .i64 ((rd_T49 l0 x10_1).f0), .int .i64 ((rd_T49 l0 x10_1).f1)] from (k49_mkM _ _ _ (⟨((rd_T49 l0 x10_1).f0), ((rd_T49 l0 x10_1).f1)⟩ : S49) )) (Reps.none _ _)))
          intro v162 w26 ho27 hb hg_ hnew_
          clear hg_ hnew_
          (first | rw [← Ny161.out] at ho27 | (simp only [Int.reduceToNat] at ho27; rw [← Ny161.out] at ho27))
          have HO163 := Aside0.mk (Kd.R_lower (Kd.R_newB (Kd.R_new' ho27 (Kd.R_lt (ra_ HO_3.out))) (g := gb148) (o := .cells #[.int .i64 ((rd_T49 l0 x10_1).f0), .int .i64 ((rd_T49 l0 x10_1).f1)] 49 (0, 0)) (bk_ BK148.out)) (below_size bls_))
          replace HO_3 := Aside0.mk (Kd.R_elder' (ra_ HO_3.out) (Kd.R_base ho27) hb)
          replace BK148 := bb_ BK148 hb
          replace HR157 := Aside0.mk (Kd.C_below (by repeat (first | (with_reducible exact HR157.out) | (with_reducible refine Kd.C_alloc ?_ _) | (with_reducible refine Kd.C_drewN ?_ _) | (with_reducible refine Kd.C_drew ?_) | exact HR157.out)) hb)
          replace HB := Aside0.mk (below_step bls_ hb)
          clear hb ho27
          refine hK.out _ _ ⟨(blk_cell BK148.out 0).trans rfl, (blk_cell BK148.out 1).trans rfl⟩ (fun hHeld => ?_)
          clear hK K
          refine nor_ 34 ?_
          refine oner_ 0 28 HT_ (fun K hK => ?_)
          refine Kd.R_lit_step k49 _ 49 ?hg (N := 28) ?hd (xs := ([] : List (S49))) (inner := []) (ok := fun _ => True) (okp := fun _ => True) ?hr ?hp (fun _ hk => hk) trivial (Below.refl _ _) (Nat.le_refl _) (by simp) ?_; (case hd => rfl); (case hg => rfl); (case hr => first | (go_simp; done) | (go_simp; rfl)); (case hp => exact (Reps.none _ _))
          intro v152 w28 ho29 hb hg_ hnew_
          clear hg_ hnew_
          (first | rw [← Ny151.out] at ho29 | (simp only [Int.reduceToNat] at ho29; rw [← Ny151.out] at ho29))
          have HO153 := Aside0.mk (Kd.R_lower (Kd.R_newB (Kd.R_new' (Kd.R_new' ho29 (Kd.R_lt (ra_ HO_3.out))) (Kd.R_lt (ra_ HO163.out))) (g := gb148) (o := .cells #[.int .i64 ((rd_T49 l0 x10_1).f0), .int .i64 ((rd_T49 l0 x10_1).f1)] 49 (0, 0)) (bk_ BK148.out)) (below_size bls_))
          replace HO_3 := Aside0.mk (Kd.R_elder' (ra_ HO_3.out) (Kd.R_base ho29) hb)
          replace HO163 := Aside0.mk (Kd.R_elder' (ra_ HO163.out) (Kd.R_base ho29) hb)
          replace BK148 := bb_ BK148 hb
          replace HR157 := Aside0.mk (Kd.C_below (by repeat (first | (with_reducible exact HR157.out) | (with_reducible refine Kd.C_alloc ?_ _) | (with_reducible refine Kd.C_drewN ?_ _) | (with_reducible refine Kd.C_drew ?_) | exact HR157.out)) hb)
          replace HB := Aside0.mk (below_step bls_ hb)
          clear hb ho29
          refine hK.out _ _ ⟨(blk_cell BK148.out 0).trans rfl, (blk_cell BK148.out 1).trans rfl⟩ (fun hHeld => ?_)
          clear hK K
          refine nor_ 28 ?_
          refine oner_ 4 32 HT_ (fun K hK => ?_)
          refine Kd.R_append_rows_step k49 (w0 := w) w.heap.size (by rfl) (.tmp 28) (.tmp 31) 28 49 (.agg #[(.int .i64 0), (.int .i64 0)]) 16 rfl Tryd.underlying28 info49 rfl (by decide) (by omega) v152 y151 y154 _ _ _ (fun k_ => some k_ ≠ (.slice (some ad149) x3_1.length co22 : Value).ownBlock ∧ some k_ ≠ (v162 : Value).ownBlock ∧ k_ ≠ gb148) (fun _ => False) rfl rfl ?aO ?aR (fun _ _ h => h) (fun _ h => h.elim) ?aF ?aB ?aS ?aL ?_
          (case aR => repeat (first | exact (by repeat (first | (with_reducible exact HR157.out) | (with_reducible refine Kd.C_alloc ?_ _) | (with_reducible refine Kd.C_drewN ?_ _) | (with_reducible refine Kd.C_drew ?_) | exact HR157.out)) | (with_reducible refine Kd.C_alloc ?_ _) | (with_reducible refine Kd.C_drewN ?_ _) | (with_reducible refine Kd.C_drew ?_)))
          (case aB => exact bls_)
          (case aF => exact (fun k_ hk => ⟨Kd.fresh' (Kd.R_lt (ra_ HO_3.out)) k_ hk, Kd.fresh' (Kd.R_lt (ra_ HO163.out)) k_ hk, Kd.freshB (g := gb148) (o := .cells #[.int .i64 ((rd_T49 l0 x10_1).f0), .int .i64 ((rd_T49 l0 x10_1).f1)] 49 (0, 0)) (bk_ BK148.out) k_ hk⟩))
          (case aO => exact (by (with_reducible repeat (first | apply Kd.R_alloc | apply Kd.R_drewN | apply Kd.R_drew)); exact Kd.R_mono HO153.out (fun _ hk => ⟨hk.1.1.2, ⟨hk.1.2, hk.2⟩⟩)))
          (case aS => exact (below_size bls_))
          (case aL => have := LMc16.out; omega)
          intro v159 w30 ho hb hg hat
          rw [← Ny158.out] at ho
          have HO160 := Aside0.mk (ho)
          replace BK148 := Aside0.mk (blk_grown (g := gb148) (o := .cells #[.int .i64 ((rd_T49 l0 x10_1).f0), .int .i64 ((rd_T49 l0 x10_1).f1)] 49 (0, 0)) (bk_ BK148.out) hg (Kd.R_away HO153.out (fun _ hk => hk.2)))
          replace HO163 := Aside0.mk (Kd.R_after (ok := (fun k_ => some k_ ≠ (.slice (some ad149) x3_1.length co22 : Value).ownBlock ∧ k_ ≠ gb148)) (by (with_reducible repeat (first | apply Kd.R_alloc | apply Kd.R_drewN | apply Kd.R_drew)); exact Kd.R_mono HO163.out (fun _ hk => ⟨⟨hk.1.1.2, hk.1.2⟩, hk.2⟩)) hg hat)
          replace HB := Aside0.mk (hb)
          replace HR157 := Aside0.mk ((show Kd.C k49 w30 (some ad149) y154.length y154 from by rw [Ny154.out]; exact Kd.C_take (m := (x6_2 : Int).toNat) ((Kd.R_reads' (Kd.R_after (ok := (fun k_ => some k_ ≠ (v162 : Value).ownBlock ∧ k_ ≠ gb148)) (by (with_reducible repeat (first | apply Kd.R_alloc | apply Kd.R_drewN | apply Kd.R_drew)); exact Kd.R_mono HO_3.out (fun _ hk => ⟨⟨hk.1.2, hk.1.1⟩, hk.2⟩)) hg hat)).2.2) KL25.out))
          replace HO_3 := Aside0.mk (Kd.R_after (ok := (fun k_ => some k_ ≠ (v162 : Value).ownBlock ∧ k_ ≠ gb148)) (by (with_reducible repeat (first | apply Kd.R_alloc | apply Kd.R_drewN | apply Kd.R_drew)); exact Kd.R_mono HO_3.out (fun _ hk => ⟨⟨hk.1.2, hk.1.1⟩, hk.2⟩)) hg hat)
          clear HO153
          clear ho hb hg hat
          refine hK.out _ _ ⟨(blk_cell BK148.out 0).trans rfl, (blk_cell BK148.out 1).trans rfl⟩ (fun hHeld => ?_)
          clear hK K
          refine nor_ 32 ?_
          exact norm_ (by simp only [putAll, Act.put, List.setIfInBounds_toArray, List.set_cons_zero, List.set_cons_succ]) (hCont (v152, v159, v162) _ ⟨hHeld, (by (with_reducible repeat (first | apply Kd.R_alloc | apply Kd.R_drewN | apply Kd.R_drew)); exact Kd.R_mono HO160.out (fun _ hk => ⟨hk.2.1, ⟨hk.1, hk.2.2⟩⟩)), (by (with_reducible repeat (first | apply Kd.R_alloc | apply Kd.R_drewN | apply Kd.R_drew)); exact Kd.R_mono HO163.out (fun _ hk => ⟨hk.2, ⟨hk.1.1, hk.1.2⟩⟩)), (by (with_reducible repeat (first | apply Kd.R_alloc | apply Kd.R_drewN | apply Kd.R_drew)); exact Kd.R_mono HO_3.out (fun _ hk => ⟨hk.2, ⟨hk.1.1, hk.1.2⟩⟩)), (bk_ BK148.out), bls_⟩)
        rintro ⟨v152, v159, v162⟩ w31 ⟨hS_, h0_, h1_, h2_, h3_, h4_⟩
        have HO160 : Aside0 (Kd.R k49 49 w31 w.heap.size (fun k_ => some k_ ≠ (v162 : Value).ownBlock ∧ some k_ ≠ (.slice (some ad149) x3_1.length co22 : Value).ownBlock ∧ k_ ≠ gb148) v159 y158) := ⟨h0_⟩
        have HO163 : Aside0 (Kd.R k49 49 w31 w.heap.size (fun k_ => some k_ ≠ (v159 : Value).ownBlock ∧ some k_ ≠ (.slice (some ad149) x3_1.length co22 : Value).ownBlock ∧ k_ ≠ gb148) v162 y161) := ⟨h1_⟩
        replace HO_3 : Aside0 (Kd.R k49 49 w31 w.heap.size (fun k_ => some k_ ≠ (v159 : Value).ownBlock ∧ some k_ ≠ (v162 : Value).ownBlock ∧ k_ ≠ gb148) (.slice (some ad149) x3_1.length co22) x3_1) := ⟨h2_⟩
        replace BK148 : Aside0 (w31.heap[gb148]? = some (.cells #[.int .i64 ((rd_T49 l0 x10_1).f0), .int .i64 ((rd_T49 l0 x10_1).f1)] 49 (0, 0))) := ⟨h3_⟩
        replace HB : Aside0 (Below w.heap.size w w31) := ⟨h4_⟩
        clear h0_ h1_ h2_ h3_ h4_
        have hHeld : w31.cell? ⟨gb148, 0, none⟩ = some (.int .i64 ((rd_T49 l0 x10_1).f0)) ∧ w31.cell? ⟨gb148, 1, none⟩ = some (.int .i64 ((rd_T49 l0 x10_1).f1)) := hS_
        obtain ⟨Ao33, co33, eo33⟩ := Kd.R_slice HO163.out
        (first | subst eo33 | (injection eo33 with f1_ f2_ f3_; have f4_ := f1_.symm; have f5_ := f3_.symm; clear f1_ f2_ f3_; subst f4_; subst f5_))
        refine norm_ (a' := ?_) ?_ ?_
        rotate_left
        ·simp only [putAll, Act.put, List.setIfInBounds_toArray, List.set_cons_zero, List.set_cons_succ]
         rfl
        refine oner_ 7 35 HT_ (fun K hK => ?_)
        refine Kd.R_append_rows_step k49 (w0 := w) w.heap.size (by rfl) (.tmp 32) (.tmp 34) 28 49 (.agg #[(.int .i64 0), (.int .i64 0)]) 16 rfl Tryd.underlying28 info49 rfl (by decide) (by omega) v159 y158 y161 _ _ _ (fun k_ => some k_ ≠ (.slice (some ad149) x3_1.length co22 : Value).ownBlock ∧ some k_ ≠ (.slice Ao33 y161.length co33 : Value).ownBlock ∧ k_ ≠ gb148) (fun _ => False) rfl rfl ?aO ?aR (fun _ _ h => h) (fun _ h => h.elim) ?aF ?aB ?aS ?aL ?_
        (case aR => repeat (first | exact (Kd.R_reads' HO163.out).2.2 | (with_reducible refine Kd.C_alloc ?_ _) | (with_reducible refine Kd.C_drewN ?_ _) | (with_reducible refine Kd.C_drew ?_)))
        (case aB => exact bls_)
        (case aF => exact (fun k_ hk => ⟨Kd.fresh' (Kd.R_lt (ra_ HO_3.out)) k_ hk, Kd.fresh' (Kd.R_lt (ra_ HO163.out)) k_ hk, Kd.freshB (g := gb148) (o := .cells #[.int .i64 ((rd_T49 l0 x10_1).f0), .int .i64 ((rd_T49 l0 x10_1).f1)] 49 (0, 0)) (bk_ BK148.out) k_ hk⟩))
        (case aO => exact (by (with_reducible repeat (first | apply Kd.R_alloc | apply Kd.R_drewN | apply Kd.R_drew)); exact Kd.R_mono HO160.out (fun _ hk => ⟨hk.2.1, ⟨hk.1, hk.2.2⟩⟩)))
        (case aS => exact (below_size bls_))
        (case aL => have := LMc17.out; omega)
        intro v165 w32 ho hb hg hat
        rw [← Ny164.out] at ho
        have HO166 := Aside0.mk (ho)
        replace HO_3 := Aside0.mk (Kd.R_after (ok := (fun k_ => some k_ ≠ (.slice Ao33 y161.length co33 : Value).ownBlock ∧ k_ ≠ gb148)) (by (with_reducible repeat (first | apply Kd.R_alloc | apply Kd.R_drewN | apply Kd.R_drew)); exact Kd.R_mono HO_3.out (fun _ hk => ⟨⟨hk.2.1, hk.2.2⟩, hk.1⟩)) hg hat)
        replace BK148 := Aside0.mk (blk_grown (g := gb148) (o := .cells #[.int .i64 ((rd_T49 l0 x10_1).f0), .int .i64 ((rd_T49 l0 x10_1).f1)] 49 (0, 0)) (bk_ BK148.out) hg (Kd.R_away HO160.out (fun _ hk => hk.2.2)))
        replace HO163 := Aside0.mk (Kd.R_after (ok := (fun k_ => some k_ ≠ (.slice (some ad149) x3_1.length co22 : Value).ownBlock ∧ k_ ≠ gb148)) (by (with_reducible repeat (first | apply Kd.R_alloc | apply Kd.R_drewN | apply Kd.R_drew)); exact Kd.R_mono HO163.out (fun _ hk => ⟨⟨hk.2.1, hk.2.2⟩, hk.1⟩)) hg hat)
        replace HB := Aside0.mk (hb)
        clear HO160
        clear ho hb hg hat
        refine hK.out _ _ ⟨(blk_cell BK148.out 0).trans rfl, (blk_cell BK148.out 1).trans rfl⟩ (fun hHeld => ?_)
        clear hK K
        refine nor_ 35 ?_
        refine pux_ 8 7 HT_ ?_
        refine done_ (done_of HT_.out (by kernel_rfl)) ?_
        have q34 : (x6_2 : Int) ≤ ((x3_1.length : Int) : Int) := odt_
        obtain ⟨i034, hi034, _, hsz34, _⟩ := info_parts info49
        have hroom34 : x3_1.length ≤ co22 := (Kd.R_reads' HO_3.out).2.1
        have hC34 : Kd.C k49 _ (some ad149) x3_1.length x3_1 := (Kd.R_reads' HO_3.out).2.2
        have q034 : (0 : Int) ≤ (x6_2 : Int) := odt_
        have hcut34 := cut_from (P := Tryd.prog) 28 49 .i64 Tryd.underlying28 hi034 2 hsz34 (some ad149) x3_1.length co22 x6_2 q034 q34
        have hr34 := Kd.C_drop (m := (x6_2 : Int).toNat) (c := co22) hC34 (by omega) hroom34
        obtain ⟨A34, hA34⟩ : ∃ A1, A1 = (if co22 = (x6_2 : Int).toNat then (some ad149) else ((some ad149) : Option Addr).map (·.add ((x6_2 : Int).toNat * 2))) := ⟨_, rfl⟩
        obtain ⟨c34, hc34⟩ : ∃ c1, c1 = co22 - (x6_2 : Int).toNat := ⟨_, rfl⟩
        have hy34 : y167.length = x3_1.length - (x6_2 : Int).toNat := (by rw [Ny167.out, List.length_drop] <;> omega)
        rw [show (x3_1).drop (x6_2 : Int).toNat = y167 from Ny167.out.symm] at hr34
        replace hr34 : Kd.C k49 _ A34 y167.length y167 := (by rw [hA34]; exact hr34)
        rw [← hy34, ← hA34, ← hc34] at hcut34
        have HR170 := Aside0.mk hr34
        have HC170 := Aside0.mk (show y167.length ≤ c34 from by rw [hy34, hc34]; exact Nat.sub_le_sub_right hroom34 _)
        clear hr34 hC34 hroom34 hi034 hsz34 hc34
        have KY34 := Aside0.mk hy34
        have KA34 := Aside0.mk hA34
        clear hy34 hA34
        have KL34 := Aside0.mk (show (x6_2 : Int).toNat ≤ x3_1.length from by omega)
        replace q34 := eq_true q34
        try go_wp2_with (first | ((with_reducible refine gate_builtin (b := .append) (xs := #[.tmp 36, .tmp 39]) rfl ?_); at_builtin; refine Kd.R_append_rows k49 (w0 := w) w.heap.size rfl (.tmp 36) (.tmp 39) 28 49 (.agg #[(.int .i64 0), (.int .i64 0)]) 16 rfl Tryd.underlying28 info49 rfl (by decide) (by omega) v165 y164 y167 _ _ _ (fun k_ => some k_ ≠ (.slice (some ad149) x3_1.length co22 : Value).ownBlock ∧ some k_ ≠ (.slice Ao33 y161.length co33 : Value).ownBlock ∧ k_ ≠ gb148) (fun _ => False) rfl rfl ?aO ?aR (fun _ _ h => h) (fun _ h => h.elim) ?aF ?aB ?aS ?aL ?_; (case aR => repeat (first | exact (by repeat (first | (with_reducible exact HR170.out) | (with_reducible refine Kd.C_alloc ?_ _) | (with_reducible refine Kd.C_drewN ?_ _) | (with_reducible refine Kd.C_drew ?_) | exact HR170.out)) | (with_reducible refine Kd.C_alloc ?_ _) | (with_reducible refine Kd.C_drewN ?_ _) | (with_reducible refine Kd.C_drew ?_))); (case aB => exact bls_); (case aF => exact (fun k_ hk => ⟨Kd.fresh' (Kd.R_lt (ra_ HO_3.out)) k_ hk, Kd.fresh' (Kd.R_lt (ra_ HO163.out)) k_ hk, Kd.freshB (g := gb148) (o := .cells #[.int .i64 ((rd_T49 l0 x10_1).f0), .int .i64 ((rd_T49 l0 x10_1).f1)] 49 (0, 0)) (bk_ BK148.out) k_ hk⟩)); (case aO => exact (ra_ HO166.out)); (case aS => exact (below_size bls_)); (case aL => have := LMc20.out; omega); intro v172 w35 ho hb hg hat; rw [← Ny171.out] at ho; have HO173 := Aside0.mk (ho); replace BK148 := Aside0.mk (blk_grown (g := gb148) (o := .cells #[.int .i64 ((rd_T49 l0 x10_1).f0), .int .i64 ((rd_T49 l0 x10_1).f1)] 49 (0, 0)) (bk_ BK148.out) hg (Kd.R_away HO166.out (fun _ hk => hk.2.2))); replace HO163 := Aside0.mk (Kd.R_after (ok := (fun k_ => some k_ ≠ (.slice (some ad149) x3_1.length co22 : Value).ownBlock ∧ k_ ≠ gb148)) (ra_ HO163.out) hg hat); replace HB := Aside0.mk (hb); replace HR170 := Aside0.mk ((show Kd.C k49 w35 A34 y167.length y167 from by rw [Ny167.out, KA34.out]; exact Kd.C_drop (m := (x6_2 : Int).toNat) (c := co22) ((Kd.R_reads' (Kd.R_after (ok := (fun k_ => some k_ ≠ (.slice Ao33 y161.length co33 : Value).ownBlock ∧ k_ ≠ gb148)) (ra_ HO_3.out) hg hat)).2.2) KL34.out ((Kd.R_reads' (Kd.R_after (ok := (fun k_ => some k_ ≠ (.slice Ao33 y161.length co33 : Value).ownBlock ∧ k_ ≠ gb148)) (ra_ HO_3.out) hg hat)).2.1))); replace HO_3 := Aside0.mk (Kd.R_after (ok := (fun k_ => some k_ ≠ (.slice Ao33 y161.length co33 : Value).ownBlock ∧ k_ ≠ gb148)) (ra_ HO_3.out) hg hat); clear HO166; clear ho hb hg hat))
        go_roundg k2
        case measure => have := HK1.out; have := HK2.out; omega
        case rel => exact ⟨(y171), (wrap64 (x10_1 + 1)), rsd_, H', ⟨by have := HK1.out; have := HK2.out; omega⟩, ⟨by (with_reducible repeat (first | apply Kd.R_alloc | apply Kd.R_drewN | apply Kd.R_drew)); exact Kd.R_mono HO173.out (fun _ hk => trivial)⟩, ⟨bls_⟩⟩
      ·rw [if_neg c7] at H
       have c7b0 : decide (x6_2 < (x3_1.length : Int)) = false := decide_eq_false c7
       clear c7
       obtain ⟨y174, hy174⟩ : ∃ y_ : List (S49), y_ = (([] : List (S49))) := ⟨_, rfl⟩
       replace H : (if 0 ≤ x6_2 then (if x6_2 ≤ (x3_1.length : Int) then ((some (x3_1.take (x6_2 : Int).toNat : List (S49))).bind fun y177 => (if y174.length + y177.length < 8796093022208 then ((some (y174 ++ y177 : List (S49))).bind fun y181 => ((some (([(⟨((rd_T49 l0 x10_1).f0), ((rd_T49 l0 x10_1).f1)⟩ : S49)] : List (S49)) : List (S49))).bind fun y184 => (if y181.length + y184.length < 8796093022208 then ((some (y181 ++ y184 : List (S49))).bind fun y187 => ((some (x3_1.drop (x6_2 : Int).toNat : List (S49))).bind fun y190 => (if y187.length + y190.length < 8796093022208 then (spec_poSorted.l0 k2 (y187 ++ y190) l0 (l0.length : Int) (wrap64 (x10_1 + 1))) else (none)))) else (none)))) else (none))) else (none)) else (none)) = some r := hyy_ hy174 H
       have Ny174 := Aside0.mk hy174
       clear hy174
       by_cases c36 : 0 ≤ x6_2
       case neg=>rw [if_neg c36] at H;exact absurd H (by simp)
       rw [if_pos c36] at H
       have c36b0 := eq_true c36
       have c36b1 : decide (0 ≤ x6_2) = true := decide_eq_true c36
       clear c36
       by_cases c37 : x6_2 ≤ (x3_1.length : Int)
       case neg=>rw [if_neg c37] at H;exact absurd H (by simp)
       rw [if_pos c37] at H
       have c37b0 := eq_true c37
       have c37b1 : decide (x6_2 ≤ (x3_1.length : Int)) = true := decide_eq_true c37
       clear c37
       obtain ⟨y177, hy177⟩ : ∃ y_ : List (S49), y_ = (x3_1.take (x6_2 : Int).toNat) := ⟨_, rfl⟩
       replace H : (if y174.length + y177.length < 8796093022208 then ((some (y174 ++ y177 : List (S49))).bind fun y181 => ((some (([(⟨((rd_T49 l0 x10_1).f0), ((rd_T49 l0 x10_1).f1)⟩ : S49)] : List (S49)) : List (S49))).bind fun y184 => (if y181.length + y184.length < 8796093022208 then ((some (y181 ++ y184 : List (S49))).bind fun y187 => ((some (x3_1.drop (x6_2 : Int).toNat : List (S49))).bind fun y190 => (if y187.length + y190.length < 8796093022208 then (spec_poSorted.l0 k2 (y187 ++ y190) l0 (l0.length : Int) (wrap64 (x10_1 + 1))) else (none)))) else (none)))) else (none)) = some r := hyy_ hy177 H
       have Ny177 := Aside0.mk hy177
       clear hy177
       by_cases c38 : y174.length + y177.length < 8796093022208
       case neg=>rw [if_neg c38] at H;exact absurd H (by simp)
       rw [if_pos c38] at H
       have LMc38 := Aside0.mk c38
       clear c38
       obtain ⟨y181, hy181⟩ : ∃ y_ : List (S49), y_ = (y174 ++ y177) := ⟨_, rfl⟩
       replace H : ((some (([(⟨((rd_T49 l0 x10_1).f0), ((rd_T49 l0 x10_1).f1)⟩ : S49)] : List (S49)) : List (S49))).bind fun y184 => (if y181.length + y184.length < 8796093022208 then ((some (y181 ++ y184 : List (S49))).bind fun y187 => ((some (x3_1.drop (x6_2 : Int).toNat : List (S49))).bind fun y190 => (if y187.length + y190.length < 8796093022208 then (spec_poSorted.l0 k2 (y187 ++ y190) l0 (l0.length : Int) (wrap64 (x10_1 + 1))) else (none)))) else (none))) = some r := hyy_ hy181 H
       have Ny181 := Aside0.mk hy181
       clear hy181
       obtain ⟨y184, hy184⟩ : ∃ y_ : List (S49), y_ = (([(⟨((rd_T49 l0 x10_1).f0), ((rd_T49 l0 x10_1).f1)⟩ : S49)] : List (S49))) := ⟨_, rfl⟩
       replace H : (if y181.length + y184.length < 8796093022208 then ((some (y181 ++ y184 : List (S49))).bind fun y187 => ((some (x3_1.drop (x6_2 : Int).toNat : List (S49))).bind fun y190 => (if y187.length + y190.length < 8796093022208 then (spec_poSorted.l0 k2 (y187 ++ y190) l0 (l0.length : Int) (wrap64 (x10_1 + 1))) else (none)))) else (none)) = some r := hyy_ hy184 H
       have Ny184 := Aside0.mk hy184
       clear hy184
       by_cases c39 : y181.length + y184.length < 8796093022208
       case neg=>rw [if_neg c39] at H;exact absurd H (by simp)
       rw [if_pos c39] at H
       have LMc39 := Aside0.mk c39
       clear c39
       obtain ⟨y187, hy187⟩ : ∃ y_ : List (S49), y_ = (y181 ++ y184) := ⟨_, rfl⟩
       replace H : ((some (x3_1.drop (x6_2 : Int).toNat : List (S49))).bind fun y190 => (if y187.length + y190.length < 8796093022208 then (spec_poSorted.l0 k2 (y187 ++ y190) l0 (l0.length : Int) (wrap64 (x10_1 + 1))) else (none))) = some r := hyy_ hy187 H
       have Ny187 := Aside0.mk hy187
       clear hy187
       have c40b0 := eq_true (odt_ : 0 ≤ x6_2)
       have c41b0 := eq_true (odt_ : x6_2 ≤ (x3_1.length : Int))
       obtain ⟨y190, hy190⟩ : ∃ y_ : List (S49), y_ = (x3_1.drop (x6_2 : Int).toNat) := ⟨_, rfl⟩
       replace H : (if y187.length + y190.length < 8796093022208 then (spec_poSorted.l0 k2 (y187 ++ y190) l0 (l0.length : Int) (wrap64 (x10_1 + 1))) else (none)) = some r := hyy_ hy190 H
       have Ny190 := Aside0.mk hy190
       clear hy190
       by_cases c42 : y187.length + y190.length < 8796093022208
       case neg=>rw [if_neg c42] at H;exact absurd H (by simp)
       rw [if_pos c42] at H
       have LMc42 := Aside0.mk c42
       clear c42
       obtain ⟨y194, hy194⟩ : ∃ y_ : List (S49), y_ = (y187 ++ y190) := ⟨_, rfl⟩
       replace H : (spec_poSorted.l0 k2 y194 l0 (l0.length : Int) (wrap64 (x10_1 + 1))) = some r := hyy_ hy194 H
       have Ny194 := Aside0.mk hy194
       clear hy194
       have H' := Aside0.mk H
       clear H
       try go_wp2
       replace HO_3 := Aside0.mk (Kd.R_drew HO_3.out)
       replace BK148 := Aside0.mk (blk_drew BK148.out)
       replace HB := Aside0.mk (below_drew1 HB.out)
       obtain ⟨Ao44, co44, eo44⟩ := Kd.R_slice HO_3.out
       (first | subst eo44 | (injection eo44 with f1_ f2_ f3_; have f4_ := f1_.symm; have f5_ := f3_.symm; clear f1_ f2_ f3_; subst f4_; subst f5_))
       refine start_ (n := 12) (S := fun w' => True) (ds := []) #[false, false, false, false, false, false, false, false, false, false, false, false] (by kernel_rfl) rfl rfl trivial (fun hHeld => ?_); refine with_tabW spec_poSorted.tab6 spec_poSorted.bits6 (fun HT_ HW_ => ?_)
       generalize wr.drew = w43 at HO_3 BK148 HB hHeld ⊢
       refine pux_ 0 14 HT_ ?_
       refine pux_ 1 15 HT_ ?_
       refine pux_ 2 16 HT_ ?_
       refine pux_ 3 17 HT_ ?_
       refine pux_ 4 18 HT_ ?_
       refine puy_ 5 19 HT_ ?_
       refine puy_ 6 20 HT_ ?_
       refine puy_ 7 21 HT_ ?_
       refine puy_ 8 22 HT_ ?_
       refine puy_ 9 23 HT_ ?_
       refine puy_ 10 24 HT_ ?_
       refine pux_ 11 25 HT_ ?_
       refine done_ (done_of HT_.out (by kernel_rfl)) ?_
       try go_wp2
       replace HO_3 := Aside0.mk (Kd.R_drew HO_3.out)
       replace BK148 := Aside0.mk (blk_drew BK148.out)
       replace HB := Aside0.mk (below_drew1 HB.out)
       have q46 : (x6_2 : Int) ≤ ((x3_1.length : Int) : Int) := odt_
       obtain ⟨i046, hi046, _, hsz46, _⟩ := info_parts info49
       have hroom46 : x3_1.length ≤ co44 := (Kd.R_reads' HO_3.out).2.1
       have hC46 : Kd.C k49 _ Ao44 x3_1.length x3_1 := (Kd.R_reads' HO_3.out).2.2
       have hcut46 := cut_to (P := Tryd.prog) 28 49 .i64 Tryd.underlying28 hi046 Ao44 x3_1.length co44 x6_2 (odt_) q46 hroom46
       have hr46 := Kd.C_take (m := (x6_2 : Int).toNat) hC46 (by omega)
       have hy46 : y177.length = (x6_2 : Int).toNat := (by rw [Ny177.out, List.length_take]; omega)
       rw [← Ny177.out] at hr46
       rw [← hy46] at hcut46
       have HR180 := Aside0.mk hr46
       have HC180 := Aside0.mk (show y177.length ≤ co44 from by omega)
       clear hr46 hC46 hroom46 hi046 hsz46
       have KY46 := Aside0.mk hy46
       clear hy46
       have KL46 := Aside0.mk (show (x6_2 : Int).toNat ≤ x3_1.length from by omega)
       replace q46 := eq_true q46
       refine start_ (n := 9) (S := fun w' => w'.cell? ⟨gb148, 0, none⟩ = some (.int .i64 ((rd_T49 l0 x10_1).f0)) ∧ w'.cell? ⟨gb148, 1, none⟩ = some (.int .i64 ((rd_T49 l0 x10_1).f1))) (ds := []) #[false, false, false, false, false, false, false, false, false] (by kernel_rfl) rfl rfl ⟨(blk_cell BK148.out 0).trans rfl, (blk_cell BK148.out 1).trans rfl⟩ (fun hHeld => ?_); refine with_tabW spec_poSorted.tab8 spec_poSorted.bits8 (fun HT_ HW_ => ?_)
       generalize w43.drew = w45 at HO_3 BK148 HB HR180 hHeld ⊢
       refine pux_ 1 29 HT_ ?_
       refine pux_ 2 30 HT_ ?_
       refine pux_ 3 31 HT_ ?_
       refine tak_ 5 33 HT_ HW_ hHeld ?_
       refine join_ (σ := Value × Value × Value) 2 #[true, true, true, true, true, true, true, false, false] (fun s_ => [(28, s_.1), (32, s_.2.1), (34, s_.2.2)]) (fun s_ w' => (w'.cell? ⟨gb148, 0, none⟩ = some (.int .i64 ((rd_T49 l0 x10_1).f0)) ∧ w'.cell? ⟨gb148, 1, none⟩ = some (.int .i64 ((rd_T49 l0 x10_1).f1))) ∧ (Kd.R k49 49 w' w.heap.size (fun k_ => some k_ ≠ (s_.2.2 : Value).ownBlock ∧ some k_ ≠ (.slice Ao44 x3_1.length co44 : Value).ownBlock ∧ k_ ≠ gb148) s_.2.1 y181) ∧ (Kd.R k49 49 w' w.heap.size (fun k_ => some k_ ≠ (s_.2.1 : Value).ownBlock ∧ some k_ ≠ (.slice Ao44 x3_1.length co44 : Value).ownBlock ∧ k_ ≠ gb148) s_.2.2 y184) ∧ (Kd.R k49 49 w' w.heap.size (fun k_ => some k_ ≠ (s_.2.1 : Value).ownBlock ∧ some k_ ≠ (s_.2.2 : Value).ownBlock ∧ k_ ≠ gb148) (.slice Ao44 x3_1.length co44) x3_1) ∧ (w'.heap[gb148]? = some (.cells #[.int .i64 ((rd_T49 l0 x10_1).f0), .int .i64 ((rd_T49 l0 x10_1).f1)] 49 (0, 0))) ∧ (Below w.heap.size w w')) ?_ ?_
       rotate_left
       ·intro hCont
        refine two_ (i := 0) (j := 6) (Ni := some 28) (Nj := some 34) #[true, true, true, true, false, true, false, false, false] #[false, true, true, true, false, true, true, false, false] rfl rfl rfl rfl (two_of HT_.out (by kernel_rfl)) (by decide) (by decide) (fun K hK => ?_) (fun K hK => ?_)
        ·skip
         refine Kd.R_lit_step k49 _ 49 ?hg (N := 28) ?hd (xs := ([] : List (S49))) (inner := []) (ok := fun _ => True) (okp := fun _ => True) ?hr ?hp (fun _ hk => hk) trivial (Below.refl _ _) (Nat.le_refl _) (by simp) ?_; (case hd => rfl); (case hg => rfl); (case hr => first | (go_simp; done) | (go_simp; rfl)); (case hp => exact (Reps.none _ _))
         intro v175 w47 ho48 hb hg_ hnew_
         clear hg_ hnew_
         (first | rw [← Ny174.out] at ho48 | (simp only [Int.reduceToNat] at ho48; rw [← Ny174.out] at ho48))
         have HO176 := Aside0.mk (Kd.R_lower (Kd.R_newB (Kd.R_new' ho48 (Kd.R_lt (ra_ HO_3.out))) (g := gb148) (o := .cells #[.int .i64 ((rd_T49 l0 x10_1).f0), .int .i64 ((rd_T49 l0 x10_1).f1)] 49 (0, 0)) (bk_ BK148.out)) (below_size bls_))
         replace HO_3 := Aside0.mk (Kd.R_elder' (ra_ HO_3.out) (Kd.R_base ho48) hb)
         replace BK148 := bb_ BK148 hb
         replace HR180 := Aside0.mk (Kd.C_below (by repeat (first | (with_reducible exact HR180.out) | (with_reducible refine Kd.C_alloc ?_ _) | (with_reducible refine Kd.C_drewN ?_ _) | (with_reducible refine Kd.C_drew ?_) | exact HR180.out)) hb)
         replace HB := Aside0.mk (below_step bls_ hb)
         clear hb ho48
         refine hK.out _ _ ⟨(blk_cell BK148.out 0).trans rfl, (blk_cell BK148.out 1).trans rfl⟩ (fun hHeld => ?_)
         clear hK K
         refine nor_ 28 ?_
         refine two_ (i := 4) (j := 6) (Ni := some 32) (Nj := some 34) #[true, true, true, true, true, true, false, false, false] #[true, true, true, true, false, true, true, false, false] rfl rfl rfl rfl (two_of HT_.out (by kernel_rfl)) (by decide) (by decide) (fun K hK => ?_) (fun K hK => ?_)
         ·skip
          refine Kd.R_append_rows_step k49 (w0 := w) w.heap.size (by rfl) (.tmp 28) (.tmp 31) 28 49 (.agg #[(.int .i64 0), (.int .i64 0)]) 16 rfl Tryd.underlying28 info49 rfl (by decide) (by omega) v175 y174 y177 _ _ _ (fun k_ => some k_ ≠ (.slice Ao44 x3_1.length co44 : Value).ownBlock ∧ k_ ≠ gb148) (fun _ => False) rfl rfl ?aO ?aR (fun _ _ h => h) (fun _ h => h.elim) ?aF ?aB ?aS ?aL ?_
          (case aR => repeat (first | exact (by repeat (first | (with_reducible exact HR180.out) | (with_reducible refine Kd.C_alloc ?_ _) | (with_reducible refine Kd.C_drewN ?_ _) | (with_reducible refine Kd.C_drew ?_) | exact HR180.out)) | (with_reducible refine Kd.C_alloc ?_ _) | (with_reducible refine Kd.C_drewN ?_ _) | (with_reducible refine Kd.C_drew ?_)))
          (case aB => exact bls_)
          (case aF => exact (fun k_ hk => ⟨Kd.fresh' (Kd.R_lt (ra_ HO_3.out)) k_ hk, Kd.freshB (g := gb148) (o := .cells #[.int .i64 ((rd_T49 l0 x10_1).f0), .int .i64 ((rd_T49 l0 x10_1).f1)] 49 (0, 0)) (bk_ BK148.out) k_ hk⟩))
          (case aO => exact (by (with_reducible repeat (first | apply Kd.R_alloc | apply Kd.R_drewN | apply Kd.R_drew)); exact Kd.R_mono HO176.out (fun _ hk => ⟨hk.1.2, hk.2⟩)))
          (case aS => exact (below_size bls_))
          (case aL => have := LMc38.out; omega)
          intro v182 w49 ho hb hg hat
          rw [← Ny181.out] at ho
          have HO183 := Aside0.mk (ho)
          replace BK148 := Aside0.mk (blk_grown (g := gb148) (o := .cells #[.int .i64 ((rd_T49 l0 x10_1).f0), .int .i64 ((rd_T49 l0 x10_1).f1)] 49 (0, 0)) (bk_ BK148.out) hg (Kd.R_away HO176.out (fun _ hk => hk.2)))
          replace HB := Aside0.mk (hb)
          replace HR180 := Aside0.mk ((show Kd.C k49 w49 Ao44 y177.length y177 from by rw [Ny177.out]; exact Kd.C_take (m := (x6_2 : Int).toNat) ((Kd.R_reads' (Kd.R_after (ok := (fun k_ => k_ ≠ gb148)) (ra_ HO_3.out) hg hat)).2.2) KL46.out))
          replace HO_3 := Aside0.mk (Kd.R_after (ok := (fun k_ => k_ ≠ gb148)) (ra_ HO_3.out) hg hat)
          clear HO176
          clear ho hb hg hat
          refine hK.out _ _ ⟨(blk_cell BK148.out 0).trans rfl, (blk_cell BK148.out 1).trans rfl⟩ (fun hHeld => ?_)
          clear hK K
          refine nor_ 32 ?_
          refine oner_ 6 34 HT_ (fun K hK => ?_)
          refine Kd.R_lit_step k49 _ 49 ?hg (N := 34) ?hd (xs := ([(⟨((rd_T49 l0 x10_1).f0), ((rd_T49 l0 x10_1).f1)⟩ : S49)] : List (S49))) (inner := [.int .i64 ((rd_T49 l0 x10_1).f0), .int .i64 ((rd_T49 l0 x10_1).f1)]) (ok := fun _ => True) (okp := fun _ => True) ?hr ?hp (fun _ hk => hk) trivial (Below.refl _ _) (Nat.le_refl _) (by simp) ?_; (case hd => rfl); (case hg => rfl); (case hr => first | (go_simp; done) | (go_simp; rfl)); (case hp => exact (Reps.c2 (show Kd.M k49 _ _ _ (⟨((rd_T49 l0 x10_1).f0), ((rd_T49 l0 x10_1).f1)⟩ : S49) [.int .i64 ((rd_T49 l0 x10_1).f0), .int .i64 ((rd_T49 l0 x10_1).f1)] from (k49_mkM _ _ _ (⟨((rd_T49 l0 x10_1).f0), ((rd_T49 l0 x10_1).f1)⟩ : S49) )) (Reps.none _ _)))
          intro v185 w50 ho51 hb hg_ hnew_
          clear hg_ hnew_
          (first | rw [← Ny184.out] at ho51 | (simp only [Int.reduceToNat] at ho51; rw [← Ny184.out] at ho51))
          have HO186 := Aside0.mk (Kd.R_lower (Kd.R_newB (Kd.R_new' (Kd.R_new' ho51 (Kd.R_lt (ra_ HO_3.out))) (Kd.R_lt (ra_ HO183.out))) (g := gb148) (o := .cells #[.int .i64 ((rd_T49 l0 x10_1).f0), .int .i64 ((rd_T49 l0 x10_1).f1)] 49 (0, 0)) (bk_ BK148.out)) (below_size bls_))
          replace HO_3 := Aside0.mk (Kd.R_elder' (ra_ HO_3.out) (Kd.R_base ho51) hb)
          replace HO183 := Aside0.mk (Kd.R_elder' (ra_ HO183.out) (Kd.R_base ho51) hb)
          replace BK148 := bb_ BK148 hb
          replace HR180 := Aside0.mk (Kd.C_below (by repeat (first | (with_reducible exact HR180.out) | (with_reducible refine Kd.C_alloc ?_ _) | (with_reducible refine Kd.C_drewN ?_ _) | (with_reducible refine Kd.C_drew ?_) | exact HR180.out)) hb)
          replace HB := Aside0.mk (below_step bls_ hb)
          clear hb ho51
          refine hK.out _ _ ⟨(blk_cell BK148.out 0).trans rfl, (blk_cell BK148.out 1).trans rfl⟩ (fun hHeld => ?_)
          clear hK K
          refine nor_ 34 ?_
          exact norm_ (by simp only [putAll, Act.put, List.setIfInBounds_toArray, List.set_cons_zero, List.set_cons_succ]) (hCont (v175, v182, v185) _ ⟨hHeld, (by (with_reducible repeat (first | apply Kd.R_alloc | apply Kd.R_drewN | apply Kd.R_drew)); exact Kd.R_mono HO183.out (fun _ hk => ⟨hk.2, ⟨hk.1.1, hk.1.2⟩⟩)), (by (with_reducible repeat (first | apply Kd.R_alloc | apply Kd.R_drewN | apply Kd.R_drew)); exact Kd.R_mono HO186.out (fun _ hk => ⟨hk.1.2, ⟨hk.1.1.2, hk.2⟩⟩)), (by (with_reducible repeat (first | apply Kd.R_alloc | apply Kd.R_drewN | apply Kd.R_drew)); exact Kd.R_mono HO_3.out (fun _ hk => ⟨hk.1.2, ⟨hk.2, hk.1.1⟩⟩)), (bk_ BK148.out), bls_⟩)
         ·skip
          refine Kd.R_lit_step k49 _ 49 ?hg (N := 34) ?hd (xs := ([(⟨((rd_T49 l0 x10_1).f0), ((rd_T49 l0 x10_1).f1)⟩ : S49)] : List (S49))) (inner := [.int .i64 ((rd_T49 l0 x10_1).f0), .int .i64 ((rd_T49 l0 x10_1).f1)]) (ok := fun _ => True) (okp := fun _ => True) ?hr ?hp (fun _ hk => hk) trivial (Below.refl _ _) (Nat.le_refl _) (by simp) ?_; (case hd => rfl); (case hg => rfl); (case hr => first | (go_simp; done) | (go_simp; rfl)); (case hp => exact (Reps.c2 (show Kd.M k49 _ _ _ (⟨((rd_T49 l0 x10_1).f0), ((rd_T49 l0 x10_1).f1)⟩ : S49) [.int .i64 ((rd_T49 l0 x10_1).f0), .int .i64 ((rd_T49 l0 x10_1).f1)] from (k49_mkM _ _ _ (⟨((rd_T49 l0 x10_1).f0), ((rd_T49 l0 x10_1).f1)⟩ : S49) )) (Reps.none _ _)))
          intro v185 w49 ho50 hb hg_ hnew_
          clear hg_ hnew_
          (first | rw [← Ny184.out] at ho50 | (simp only [Int.reduceToNat] at ho50; rw [← Ny184.out] at ho50))
          have HO186 := Aside0.mk (Kd.R_lower (Kd.R_newB (Kd.R_new' (Kd.R_new' ho50 (Kd.R_lt (ra_ HO_3.out))) (Kd.R_lt (ra_ HO176.out))) (g := gb148) (o := .cells #[.int .i64 ((rd_T49 l0 x10_1).f0), .int .i64 ((rd_T49 l0 x10_1).f1)] 49 (0, 0)) (bk_ BK148.out)) (below_size bls_))
          replace HO_3 := Aside0.mk (Kd.R_elder' (ra_ HO_3.out) (Kd.R_base ho50) hb)
          replace HO176 := Aside0.mk (Kd.R_elder' (ra_ HO176.out) (Kd.R_base ho50) hb)
          replace BK148 := bb_ BK148 hb
          replace HR180 := Aside0.mk (Kd.C_below (by repeat (first | (with_reducible exact HR180.out) | (with_reducible refine Kd.C_alloc ?_ _) | (with_reducible refine Kd.C_drewN ?_ _) | (with_reducible refine Kd.C_drew ?_) | exact HR180.out)) hb)
          replace HB := Aside0.mk (below_step bls_ hb)
          clear hb ho50
          refine hK.out _ _ ⟨(blk_cell BK148.out 0).trans rfl, (blk_cell BK148.out 1).trans rfl⟩ (fun hHeld => ?_)
          clear hK K
          refine nor_ 34 ?_
          refine oner_ 4 32 HT_ (fun K hK => ?_)
          refine Kd.R_append_rows_step k49 (w0 := w) w.heap.size (by rfl) (.tmp 28) (.tmp 31) 28 49 (.agg #[(.int .i64 0), (.int .i64 0)]) 16 rfl Tryd.underlying28 info49 rfl (by decide) (by omega) v175 y174 y177 _ _ _ (fun k_ => some k_ ≠ (.slice Ao44 x3_1.length co44 : Value).ownBlock ∧ some k_ ≠ (v185 : Value).ownBlock ∧ k_ ≠ gb148) (fun _ => False) rfl rfl ?aO ?aR (fun _ _ h => h) (fun _ h => h.elim) ?aF ?aB ?aS ?aL ?_
          (case aR => repeat (first | exact (by repeat (first | (with_reducible exact HR180.out) | (with_reducible refine Kd.C_alloc ?_ _) | (with_reducible refine Kd.C_drewN ?_ _) | (with_reducible refine Kd.C_drew ?_) | exact HR180.out)) | (with_reducible refine Kd.C_alloc ?_ _) | (with_reducible refine Kd.C_drewN ?_ _) | (with_reducible refine Kd.C_drew ?_)))
          (case aB => exact bls_)
          (case aF => exact (fun k_ hk => ⟨Kd.fresh' (Kd.R_lt (ra_ HO_3.out)) k_ hk, Kd.fresh' (Kd.R_lt (ra_ HO186.out)) k_ hk, Kd.freshB (g := gb148) (o := .cells #[.int .i64 ((rd_T49 l0 x10_1).f0), .int .i64 ((rd_T49 l0 x10_1).f1)] 49 (0, 0)) (bk_ BK148.out) k_ hk⟩))
          (case aO => exact (by (with_reducible repeat (first | apply Kd.R_alloc | apply Kd.R_drewN | apply Kd.R_drew)); exact Kd.R_mono HO176.out (fun _ hk => ⟨hk.1.1.2, ⟨hk.2, hk.1.2⟩⟩)))
          (case aS => exact (below_size bls_))
          (case aL => have := LMc38.out; omega)
          intro v182 w51 ho hb hg hat
          rw [← Ny181.out] at ho
          have HO183 := Aside0.mk (ho)
          replace BK148 := Aside0.mk (blk_grown (g := gb148) (o := .cells #[.int .i64 ((rd_T49 l0 x10_1).f0), .int .i64 ((rd_T49 l0 x10_1).f1)] 49 (0, 0)) (bk_ BK148.out) hg (Kd.R_away HO176.out (fun _ hk => hk.1.2)))
          replace HO186 := Aside0.mk (Kd.R_after (ok := (fun k_ => some k_ ≠ (.slice Ao44 x3_1.length co44 : Value).ownBlock ∧ k_ ≠ gb148)) (by (with_reducible repeat (first | apply Kd.R_alloc | apply Kd.R_drewN | apply Kd.R_drew)); exact Kd.R_mono HO186.out (fun _ hk => ⟨⟨hk.1.1.2, hk.2⟩, hk.1.2⟩)) hg hat)
          replace HB := Aside0.mk (hb)
          replace HR180 := Aside0.mk ((show Kd.C k49 w51 Ao44 y177.length y177 from by rw [Ny177.out]; exact Kd.C_take (m := (x6_2 : Int).toNat) ((Kd.R_reads' (Kd.R_after (ok := (fun k_ => some k_ ≠ (v185 : Value).ownBlock ∧ k_ ≠ gb148)) (by (with_reducible repeat (first | apply Kd.R_alloc | apply Kd.R_drewN | apply Kd.R_drew)); exact Kd.R_mono HO_3.out (fun _ hk => ⟨⟨hk.2, hk.1.1⟩, hk.1.2⟩)) hg hat)).2.2) KL46.out))
          replace HO_3 := Aside0.mk (Kd.R_after (ok := (fun k_ => some k_ ≠ (v185 : Value).ownBlock ∧ k_ ≠ gb148)) (by (with_reducible repeat (first | apply Kd.R_alloc | apply Kd.R_drewN | apply Kd.R_drew)); exact Kd.R_mono HO_3.out (fun _ hk => ⟨⟨hk.2, hk.1.1⟩, hk.1.2⟩)) hg hat)
          clear HO176
          clear ho hb hg hat
          refine hK.out _ _ ⟨(blk_cell BK148.out 0).trans rfl, (blk_cell BK148.out 1).trans rfl⟩ (fun hHeld => ?_)
          clear hK K
          refine nor_ 32 ?_
          exact norm_ (by simp only [putAll, Act.put, List.setIfInBounds_toArray, List.set_cons_zero, List.set_cons_succ]) (hCont (v175, v182, v185) _ ⟨hHeld, (by (with_reducible repeat (first | apply Kd.R_alloc | apply Kd.R_drewN | apply Kd.R_drew)); exact Kd.R_mono HO183.out (fun _ hk => ⟨hk.2.1, ⟨hk.1, hk.2.2⟩⟩)), (by (with_reducible repeat (first | apply Kd.R_alloc | apply Kd.R_drewN | apply Kd.R_drew)); exact Kd.R_mono HO186.out (fun _ hk => ⟨hk.2, ⟨hk.1.1, hk.1.2⟩⟩)), (by (with_reducible repeat (first | apply Kd.R_alloc | apply Kd.R_drewN | apply Kd.R_drew)); exact Kd.R_mono HO_3.out (fun _ hk => ⟨hk.2, ⟨hk.1.1, hk.1.2⟩⟩)), (bk_ BK148.out), bls_⟩)
        ·skip
         refine Kd.R_lit_step k49 _ 49 ?hg (N := 34) ?hd (xs := ([(⟨((rd_T49 l0 x10_1).f0), ((rd_T49 l0 x10_1).f1)⟩ : S49)] : List (S49))) (inner := [.int .i64 ((rd_T49 l0 x10_1).f0), .int .i64 ((rd_T49 l0 x10_1).f1)]) (ok := fun _ => True) (okp := fun _ => True) ?hr ?hp (fun _ hk => hk) trivial (Below.refl _ _) (Nat.le_refl _) (by simp) ?_; (case hd => rfl); (case hg => rfl); (case hr => first | (go_simp; done) | (go_simp; rfl)); (case hp => exact (Reps.c2 (show Kd.M k49 _ _ _ (⟨((rd_T49 l0 x10_1).f0), ((rd_T49 l0 x10_1).f1)⟩ : S49) [.int .i64 ((rd_T49 l0 x10_1).f0), .int .i64 ((rd_T49 l0 x10_1).f1)] from (k49_mkM _ _ _ (⟨((rd_T49 l0 x10_1).f0), ((rd_T49 l0 x10_1).f1)⟩ : S49) )) (Reps.none _ _)))
         intro v185 w47 ho48 hb hg_ hnew_
         clear hg_ hnew_
         (first | rw [← Ny184.out] at ho48 | (simp only [Int.reduceToNat] at ho48; rw [← Ny184.out] at ho48))
         have HO186 := Aside0.mk (Kd.R_lower (Kd.R_newB (Kd.R_new' ho48 (Kd.R_lt (ra_ HO_3.out))) (g := gb148) (o := .cells #[.int .i64 ((rd_T49 l0 x10_1).f0), .int .i64 ((rd_T49 l0 x10_1).f1)] 49 (0, 0)) (bk_ BK148.out)) (below_size bls_))
         replace HO_3 := Aside0.mk (Kd.R_elder' (ra_ HO_3.out) (Kd.R_base ho48) hb)
         replace BK148 := bb_ BK148 hb
         replace HR180 := Aside0.mk (Kd.C_below (by repeat (first | (with_reducible exact HR180.out) | (with_reducible refine Kd.C_alloc ?_ _) | (with_reducible refine Kd.C_drewN ?_ _) | (with_reducible refine Kd.C_drew ?_) | exact HR180.out)) hb)
         replace HB := Aside0.mk (below_step bls_ hb)
         clear hb ho48
         refine hK.out _ _ ⟨(blk_cell BK148.out 0).trans rfl, (blk_cell BK148.out 1).trans rfl⟩ (fun hHeld => ?_)
         clear hK K
         refine nor_ 34 ?_
         refine oner_ 0 28 HT_ (fun K hK => ?_)
         refine Kd.R_lit_step k49 _ 49 ?hg (N := 28) ?hd (xs := ([] : List (S49))) (inner := []) (ok := fun _ => True) (okp := fun _ => True) ?hr ?hp (fun _ hk => hk) trivial (Below.refl _ _) (Nat.le_refl _) (by simp) ?_; (case hd => rfl); (case hg => rfl); (case hr => first | (go_simp; done) | (go_simp; rfl)); (case hp => exact (Reps.none _ _))
         intro v175 w49 ho50 hb hg_ hnew_
         clear hg_ hnew_
         (first | rw [← Ny174.out] at ho50 | (simp only [Int.reduceToNat] at ho50; rw [← Ny174.out] at ho50))
         have HO176 := Aside0.mk (Kd.R_lower (Kd.R_newB (Kd.R_new' (Kd.R_new' ho50 (Kd.R_lt (ra_ HO_3.out))) (Kd.R_lt (ra_ HO186.out))) (g := gb148) (o := .cells #[.int .i64 ((rd_T49 l0 x10_1).f0), .int .i64 ((rd_T49 l0 x10_1).f1)] 49 (0, 0)) (bk_ BK148.out)) (below_size bls_))
         replace HO_3 := Aside0.mk (Kd.R_elder' (ra_ HO_3.out) (Kd.R_base ho50) hb)
         replace HO186 := Aside0.mk (Kd.R_elder' (ra_ HO186.out) (Kd.R_base ho50) hb)
         replace BK148 := bb_ BK148 hb
         replace HR180 := Aside0.mk (Kd.C_below (by repeat (first | (with_reducible exact HR180.out) | (with_reducible refine Kd.C_alloc ?_ _) | (with_reducible refine Kd.C_drewN ?_ _) | (with_reducible refine Kd.C_drew ?_) | exact HR180.out)) hb)
         replace HB := Aside0.mk (below_step bls_ hb)
         clear hb ho50
         refine hK.out _ _ ⟨(blk_cell BK148.out 0).trans rfl, (blk_cell BK148.out 1).trans rfl⟩ (fun hHeld => ?_)
         clear hK K
         refine nor_ 28 ?_
         refine oner_ 4 32 HT_ (fun K hK => ?_)
         refine Kd.R_append_rows_step k49 (w0 := w) w.heap.size (by rfl) (.tmp 28) (.tmp 31) 28 49 (.agg #[(.int .i64 0), (.int .i64 0)]) 16 rfl Tryd.underlying28 info49 rfl (by decide) (by omega) v175 y174 y177 _ _ _ (fun k_ => some k_ ≠ (.slice Ao44 x3_1.length co44 : Value).ownBlock ∧ some k_ ≠ (v185 : Value).ownBlock ∧ k_ ≠ gb148) (fun _ => False) rfl rfl ?aO ?aR (fun _ _ h => h) (fun _ h => h.elim) ?aF ?aB ?aS ?aL ?_
         (case aR => repeat (first | exact (by repeat (first | (with_reducible exact HR180.out) | (with_reducible refine Kd.C_alloc ?_ _) | (with_reducible refine Kd.C_drewN ?_ _) | (with_reducible refine Kd.C_drew ?_) | exact HR180.out)) | (with_reducible refine Kd.C_alloc ?_ _) | (with_reducible refine Kd.C_drewN ?_ _) | (with_reducible refine Kd.C_drew ?_)))
         (case aB => exact bls_)
         (case aF => exact (fun k_ hk => ⟨Kd.fresh' (Kd.R_lt (ra_ HO_3.out)) k_ hk, Kd.fresh' (Kd.R_lt (ra_ HO186.out)) k_ hk, Kd.freshB (g := gb148) (o := .cells #[.int .i64 ((rd_T49 l0 x10_1).f0), .int .i64 ((rd_T49 l0 x10_1).f1)] 49 (0, 0)) (bk_ BK148.out) k_ hk⟩))
         (case aO => exact (by (with_reducible repeat (first | apply Kd.R_alloc | apply Kd.R_drewN | apply Kd.R_drew)); exact Kd.R_mono HO176.out (fun _ hk => ⟨hk.1.1.2, ⟨hk.1.2, hk.2⟩⟩)))
         (case aS => exact (below_size bls_))
         (case aL => have := LMc38.out; omega)
         intro v182 w51 ho hb hg hat
         rw [← Ny181.out] at ho
         have HO183 := Aside0.mk (ho)
         replace BK148 := Aside0.mk (blk_grown (g := gb148) (o := .cells #[.int .i64 ((rd_T49 l0 x10_1).f0), .int .i64 ((rd_T49 l0 x10_1).f1)] 49 (0, 0)) (bk_ BK148.out) hg (Kd.R_away HO176.out (fun _ hk => hk.2)))
         replace HO186 := Aside0.mk (Kd.R_after (ok := (fun k_ => some k_ ≠ (.slice Ao44 x3_1.length co44 : Value).ownBlock ∧ k_ ≠ gb148)) (by (with_reducible repeat (first | apply Kd.R_alloc | apply Kd.R_drewN | apply Kd.R_drew)); exact Kd.R_mono HO186.out (fun _ hk => ⟨⟨hk.1.1.2, hk.1.2⟩, hk.2⟩)) hg hat)
         replace HB := Aside0.mk (hb)
         replace HR180 := Aside0.mk ((show Kd.C k49 w51 Ao44 y177.length y177 from by rw [Ny177.out]; exact Kd.C_take (m := (x6_2 : Int).toNat) ((Kd.R_reads' (Kd.R_after (ok := (fun k_ => some k_ ≠ (v185 : Value).ownBlock ∧ k_ ≠ gb148)) (by (with_reducible repeat (first | apply Kd.R_alloc | apply Kd.R_drewN | apply Kd.R_drew)); exact Kd.R_mono HO_3.out (fun _ hk => ⟨⟨hk.1.2, hk.1.1⟩, hk.2⟩)) hg hat)).2.2) KL46.out))
         replace HO_3 := Aside0.mk (Kd.R_after (ok := (fun k_ => some k_ ≠ (v185 : Value).ownBlock ∧ k_ ≠ gb148)) (by (with_reducible repeat (first | apply Kd.R_alloc | apply Kd.R_drewN | apply Kd.R_drew)); exact Kd.R_mono HO_3.out (fun _ hk => ⟨⟨hk.1.2, hk.1.1⟩, hk.2⟩)) hg hat)
         clear HO176
         clear ho hb hg hat
         refine hK.out _ _ ⟨(blk_cell BK148.out 0).trans rfl, (blk_cell BK148.out 1).trans rfl⟩ (fun hHeld => ?_)
         clear hK K
         refine nor_ 32 ?_
         exact norm_ (by simp only [putAll, Act.put, List.setIfInBounds_toArray, List.set_cons_zero, List.set_cons_succ]) (hCont (v175, v182, v185) _ ⟨hHeld, (by (with_reducible repeat (first | apply Kd.R_alloc | apply Kd.R_drewN | apply Kd.R_drew)); exact Kd.R_mono HO183.out (fun _ hk => ⟨hk.2.1, ⟨hk.1, hk.2.2⟩⟩)), (by (with_reducible repeat (first | apply Kd.R_alloc | apply Kd.R_drewN | apply Kd.R_drew)); exact Kd.R_mono HO186.out (fun _ hk => ⟨hk.2, ⟨hk.1.1, hk.1.2⟩⟩)), (by (with_reducible repeat (first | apply Kd.R_alloc | apply Kd.R_drewN | apply Kd.R_drew)); exact Kd.R_mono HO_3.out (fun _ hk => ⟨hk.2, ⟨hk.1.1, hk.1.2⟩⟩)), (bk_ BK148.out), bls_⟩)
       rintro ⟨v175, v182, v185⟩ w52 ⟨hS_, h0_, h1_, h2_, h3_, h4_⟩
       have HO183 : Aside0 (Kd.R k49 49 w52 w.heap.size (fun k_ => some k_ ≠ (v185 : Value).ownBlock ∧ some k_ ≠ (.slice Ao44 x3_1.length co44 : Value).ownBlock ∧ k_ ≠ gb148) v182 y181) := ⟨h0_⟩
       have HO186 : Aside0 (Kd.R k49 49 w52 w.heap.size (fun k_ => some k_ ≠ (v182 : Value).ownBlock ∧ some k_ ≠ (.slice Ao44 x3_1.length co44 : Value).ownBlock ∧ k_ ≠ gb148) v185 y184) := ⟨h1_⟩
       replace HO_3 : Aside0 (Kd.R k49 49 w52 w.heap.size (fun k_ => some k_ ≠ (v182 : Value).ownBlock ∧ some k_ ≠ (v185 : Value).ownBlock ∧ k_ ≠ gb148) (.slice Ao44 x3_1.length co44) x3_1) := ⟨h2_⟩
       replace BK148 : Aside0 (w52.heap[gb148]? = some (.cells #[.int .i64 ((rd_T49 l0 x10_1).f0), .int .i64 ((rd_T49 l0 x10_1).f1)] 49 (0, 0))) := ⟨h3_⟩
       replace HB : Aside0 (Below w.heap.size w w52) := ⟨h4_⟩
       clear h0_ h1_ h2_ h3_ h4_
       have hHeld : w52.cell? ⟨gb148, 0, none⟩ = some (.int .i64 ((rd_T49 l0 x10_1).f0)) ∧ w52.cell? ⟨gb148, 1, none⟩ = some (.int .i64 ((rd_T49 l0 x10_1).f1)) := hS_
       obtain ⟨Ao54, co54, eo54⟩ := Kd.R_slice HO186.out
       (first | subst eo54 | (injection eo54 with f1_ f2_ f3_; have f4_ := f1_.symm; have f5_ := f3_.symm; clear f1_ f2_ f3_; subst f4_; subst f5_))
       refine norm_ (a' := ?_) ?_ ?_
       rotate_left
       ·simp only [putAll, Act.put, List.setIfInBounds_toArray, List.set_cons_zero, List.set_cons_succ]
        rfl
       refine oner_ 7 35 HT_ (fun K hK => ?_)
       refine Kd.R_append_rows_step k49 (w0 := w) w.heap.size (by rfl) (.tmp 32) (.tmp 34) 28 49 (.agg #[(.int .i64 0), (.int .i64 0)]) 16 rfl Tryd.underlying28 info49 rfl (by decide) (by omega) v182 y181 y184 _ _ _ (fun k_ => some k_ ≠ (.slice Ao44 x3_1.length co44 : Value).ownBlock ∧ some k_ ≠ (.slice Ao54 y184.length co54 : Value).ownBlock ∧ k_ ≠ gb148) (fun _ => False) rfl rfl ?aO ?aR (fun _ _ h => h) (fun _ h => h.elim) ?aF ?aB ?aS ?aL ?_
       (case aR => repeat (first | exact (Kd.R_reads' HO186.out).2.2 | (with_reducible refine Kd.C_alloc ?_ _) | (with_reducible refine Kd.C_drewN ?_ _) | (with_reducible refine Kd.C_drew ?_)))
       (case aB => exact bls_)
       (case aF => exact (fun k_ hk => ⟨Kd.fresh' (Kd.R_lt (ra_ HO_3.out)) k_ hk, Kd.fresh' (Kd.R_lt (ra_ HO186.out)) k_ hk, Kd.freshB (g := gb148) (o := .cells #[.int .i64 ((rd_T49 l0 x10_1).f0), .int .i64 ((rd_T49 l0 x10_1).f1)] 49 (0, 0)) (bk_ BK148.out) k_ hk⟩))
       (case aO => exact (by (with_reducible repeat (first | apply Kd.R_alloc | apply Kd.R_drewN | apply Kd.R_drew)); exact Kd.R_mono HO183.out (fun _ hk => ⟨hk.2.1, ⟨hk.1, hk.2.2⟩⟩)))
       (case aS => exact (below_size bls_))
       (case aL => have := LMc39.out; omega)
       intro v188 w53 ho hb hg hat
       rw [← Ny187.out] at ho
       have HO189 := Aside0.mk (ho)
       replace HO_3 := Aside0.mk (Kd.R_after (ok := (fun k_ => some k_ ≠ (.slice Ao54 y184.length co54 : Value).ownBlock ∧ k_ ≠ gb148)) (by (with_reducible repeat (first | apply Kd.R_alloc | apply Kd.R_drewN | apply Kd.R_drew)); exact Kd.R_mono HO_3.out (fun _ hk => ⟨⟨hk.2.1, hk.2.2⟩, hk.1⟩)) hg hat)
       replace BK148 := Aside0.mk (blk_grown (g := gb148) (o := .cells #[.int .i64 ((rd_T49 l0 x10_1).f0), .int .i64 ((rd_T49 l0 x10_1).f1)] 49 (0, 0)) (bk_ BK148.out) hg (Kd.R_away HO183.out (fun _ hk => hk.2.2)))
       replace HO186 := Aside0.mk (Kd.R_after (ok := (fun k_ => some k_ ≠ (.slice Ao44 x3_1.length co44 : Value).ownBlock ∧ k_ ≠ gb148)) (by (with_reducible repeat (first | apply Kd.R_alloc | apply Kd.R_drewN | apply Kd.R_drew)); exact Kd.R_mono HO186.out (fun _ hk => ⟨⟨hk.2.1, hk.2.2⟩, hk.1⟩)) hg hat)
       replace HB := Aside0.mk (hb)
       clear HO183
       clear ho hb hg hat
       refine hK.out _ _ ⟨(blk_cell BK148.out 0).trans rfl, (blk_cell BK148.out 1).trans rfl⟩ (fun hHeld => ?_)
       clear hK K
       refine nor_ 35 ?_
       refine pux_ 8 7 HT_ ?_
       refine done_ (done_of HT_.out (by kernel_rfl)) ?_
       have q55 : (x6_2 : Int) ≤ ((x3_1.length : Int) : Int) := odt_
       obtain ⟨i055, hi055, _, hsz55, _⟩ := info_parts info49
       have hroom55 : x3_1.length ≤ co44 := (Kd.R_reads' HO_3.out).2.1
       have hC55 : Kd.C k49 _ Ao44 x3_1.length x3_1 := (Kd.R_reads' HO_3.out).2.2
       have q055 : (0 : Int) ≤ (x6_2 : Int) := odt_
       have hcut55 := cut_from (P := Tryd.prog) 28 49 .i64 Tryd.underlying28 hi055 2 hsz55 Ao44 x3_1.length co44 x6_2 q055 q55
       have hr55 := Kd.C_drop (m := (x6_2 : Int).toNat) (c := co44) hC55 (by omega) hroom55
       obtain ⟨A55, hA55⟩ : ∃ A1, A1 = (if co44 = (x6_2 : Int).toNat then Ao44 else (Ao44 : Option Addr).map (·.add ((x6_2 : Int).toNat * 2))) := ⟨_, rfl⟩
       obtain ⟨c55, hc55⟩ : ∃ c1, c1 = co44 - (x6_2 : Int).toNat := ⟨_, rfl⟩
       have hy55 : y190.length = x3_1.length - (x6_2 : Int).toNat := (by rw [Ny190.out, List.length_drop] <;> omega)
       rw [show (x3_1).drop (x6_2 : Int).toNat = y190 from Ny190.out.symm] at hr55
       replace hr55 : Kd.C k49 _ A55 y190.length y190 := (by rw [hA55]; exact hr55)
       rw [← hy55, ← hA55, ← hc55] at hcut55
       have HR193 := Aside0.mk hr55
       have HC193 := Aside0.mk (show y190.length ≤ c55 from by rw [hy55, hc55]; exact Nat.sub_le_sub_right hroom55 _)
       clear hr55 hC55 hroom55 hi055 hsz55 hc55
       have KY55 := Aside0.mk hy55
       have KA55 := Aside0.mk hA55
       clear hy55 hA55
       have KL55 := Aside0.mk (show (x6_2 : Int).toNat ≤ x3_1.length from by omega)
       replace q55 := eq_true q55
       try go_wp2_with (first | ((with_reducible refine gate_builtin (b := .append) (xs := #[.tmp 36, .tmp 39]) rfl ?_); at_builtin; refine Kd.R_append_rows k49 (w0 := w) w.heap.size rfl (.tmp 36) (.tmp 39) 28 49 (.agg #[(.int .i64 0), (.int .i64 0)]) 16 rfl Tryd.underlying28 info49 rfl (by decide) (by omega) v188 y187 y190 _ _ _ (fun k_ => some k_ ≠ (.slice Ao44 x3_1.length co44 : Value).ownBlock ∧ some k_ ≠ (.slice Ao54 y184.length co54 : Value).ownBlock ∧ k_ ≠ gb148) (fun _ => False) rfl rfl ?aO ?aR (fun _ _ h => h) (fun _ h => h.elim) ?aF ?aB ?aS ?aL ?_; (case aR => repeat (first | exact (by repeat (first | (with_reducible exact HR193.out) | (with_reducible refine Kd.C_alloc ?_ _) | (with_reducible refine Kd.C_drewN ?_ _) | (with_reducible refine Kd.C_drew ?_) | exact HR193.out)) | (with_reducible refine Kd.C_alloc ?_ _) | (with_reducible refine Kd.C_drewN ?_ _) | (with_reducible refine Kd.C_drew ?_))); (case aB => exact bls_); (case aF => exact (fun k_ hk => ⟨Kd.fresh' (Kd.R_lt (ra_ HO_3.out)) k_ hk, Kd.fresh' (Kd.R_lt (ra_ HO186.out)) k_ hk, Kd.freshB (g := gb148) (o := .cells #[.int .i64 ((rd_T49 l0 x10_1).f0), .int .i64 ((rd_T49 l0 x10_1).f1)] 49 (0, 0)) (bk_ BK148.out) k_ hk⟩)); (case aO => exact (ra_ HO189.out)); (case aS => exact (below_size bls_)); (case aL => have := LMc42.out; omega); intro v195 w56 ho hb hg hat; rw [← Ny194.out] at ho; have HO196 := Aside0.mk (ho); replace BK148 := Aside0.mk (blk_grown (g := gb148) (o := .cells #[.int .i64 ((rd_T49 l0 x10_1).f0), .int .i64 ((rd_T49 l0 x10_1).f1)] 49 (0, 0)) (bk_ BK148.out) hg (Kd.R_away HO189.out (fun _ hk => hk.2.2))); replace HO186 := Aside0.mk (Kd.R_after (ok := (fun k_ => some k_ ≠ (.slice Ao44 x3_1.length co44 : Value).ownBlock ∧ k_ ≠ gb148)) (ra_ HO186.out) hg hat); replace HB := Aside0.mk (hb); replace HR193 := Aside0.mk ((show Kd.C k49 w56 A55 y190.length y190 from by rw [Ny190.out, KA55.out]; exact Kd.C_drop (m := (x6_2 : Int).toNat) (c := co44) ((Kd.R_reads' (Kd.R_after (ok := (fun k_ => some k_ ≠ (.slice Ao54 y184.length co54 : Value).ownBlock ∧ k_ ≠ gb148)) (ra_ HO_3.out) hg hat)).2.2) KL55.out ((Kd.R_reads' (Kd.R_after (ok := (fun k_ => some k_ ≠ (.slice Ao54 y184.length co54 : Value).ownBlock ∧ k_ ≠ gb148)) (ra_ HO_3.out) hg hat)).2.1))); replace HO_3 := Aside0.mk (Kd.R_after (ok := (fun k_ => some k_ ≠ (.slice Ao54 y184.length co54 : Value).ownBlock ∧ k_ ≠ gb148)) (ra_ HO_3.out) hg hat); clear HO189; clear ho hb hg hat))
       go_roundg k2
       case measure => have := HK1.out; have := HK2.out; omega
       case rel => exact ⟨(y194), (wrap64 (x10_1 + 1)), rsd_, H', ⟨by have := HK1.out; have := HK2.out; omega⟩, ⟨by (with_reducible repeat (first | apply Kd.R_alloc | apply Kd.R_drewN | apply Kd.R_drew)); exact Kd.R_mono HO196.out (fun _ hk => trivial)⟩, ⟨bls_⟩⟩
   ·rw [if_neg c2] at H
    have c2b0 : decide (x10_1 < (l0.length : Int)) = false := decide_eq_false c2
    clear c2
    obtain rfl := Option.some.inj H
    go_wp2
    go_ret
    exact ⟨_, by first | rfl | (simp [errW_none, errW_some] <;> rfl) | (simp [*, errW_none, errW_some] <;> rfl), by (with_reducible repeat (first | apply Kd.R_alloc | apply Kd.R_drewN | apply Kd.R_drew)); exact HO_3.out, blw_⟩

end Go.Proofs.YtgblginphicacaaDoor.PFnExactFarthestByFlips
