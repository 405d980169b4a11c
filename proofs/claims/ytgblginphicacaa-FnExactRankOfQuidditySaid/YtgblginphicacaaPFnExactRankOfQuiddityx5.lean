-- WRITTEN BY A PROGRAM OF THIS WORK (wip/tools/ppatch.py) for this claim.
import Derived.Test.YtgblginphicacaaPFnExactRankOfQuiddityx0
import Derived.Test.YtgblginphicacaaPFnExactRankOfQuiddityx4
namespace Go.Proofs.Ytgblginphicacaa.PFnExactRankOfQuiddity
open Go.RowKit Go.Proofs.YtgblginphicacaaW.PrintWords Go.Proofs.YtgblginphicacaaW.PrintLast Go.Proofs.YtgblginphicacaaW.PrintMore
attribute [local go_sem] max2_int min2_int max_two min_two max_three min_three max_four min_four   -- for this text's walks alone
set_option linter.unusedVariables false
set_option linter.unusedSimpArgs false

/-! ### spec_poSorted: function 84 -/
mutual
def spec_poSorted.l0 : Nat → List (S52) → List (S52) → Int → Int → Option ((List (S52)))
 | 0, _, _, _, _ => none
 | k + 1, x3, x8, x9, x10 => if x10 < x9 then (if 0 ≤ x10 then (if x10 < (x8.length : Int) then (spec_poSorted.l1 k x3 0 x8 x9 x10 ((rd_T52 x8 x10).f0) ((rd_T52 x8 x10).f1)) else (none)) else (none)) else (some x3)
def spec_poSorted.l1 : Nat → List (S52) → Int → List (S52) → Int → Int → Int → Int → Option ((List (S52)))
 | 0, _, _, _, _, _, _, _ => none
 | k + 1, x3, x6, x8, x9, x10, x188000, x188001 => if x6 < (x3.length : Int) then (if 0 ≤ x6 then ((spec_poLess.f ((rd_T52 x3 x6).f0) ((rd_T52 x3 x6).f1) x188000 x188001).bind fun t189 => (if t189 = true then (spec_poSorted.l1 k x3 (wrap64 (x6 + 1)) x8 x9 x10 x188000 x188001) else ((some (([] : List (S52)) : List (S52))).bind fun y190 => (if x6 ≤ (x3.length : Int) then ((some (x3.take (x6 : Int).toNat : List (S52))).bind fun y193 => (if y190.length + y193.length < 8796093022208 then ((some (y190 ++ y193 : List (S52))).bind fun y197 => ((some (([(⟨x188000, x188001⟩ : S52)] : List (S52)) : List (S52))).bind fun y200 => (if y197.length + y200.length < 8796093022208 then ((some (y197 ++ y200 : List (S52))).bind fun y203 => ((some (x3.drop (x6 : Int).toNat : List (S52))).bind fun y206 => (if y203.length + y206.length < 8796093022208 then (spec_poSorted.l0 k (y203 ++ y206) x8 x9 (wrap64 (x10 + 1))) else (none)))) else (none)))) else (none))) else (none))))) else (none)) else ((some (([] : List (S52)) : List (S52))).bind fun y213 => (if 0 ≤ x6 then (if x6 ≤ (x3.length : Int) then ((some (x3.take (x6 : Int).toNat : List (S52))).bind fun y216 => (if y213.length + y216.length < 8796093022208 then ((some (y213 ++ y216 : List (S52))).bind fun y220 => ((some (([(⟨x188000, x188001⟩ : S52)] : List (S52)) : List (S52))).bind fun y223 => (if y220.length + y223.length < 8796093022208 then ((some (y220 ++ y223 : List (S52))).bind fun y226 => ((some (x3.drop (x6 : Int).toNat : List (S52))).bind fun y229 => (if y226.length + y229.length < 8796093022208 then (spec_poSorted.l0 k (y226 ++ y229) x8 x9 (wrap64 (x10 + 1))) else (none)))) else (none)))) else (none))) else (none)) else (none)))
end
def spec_poSorted.f (k : Nat) (l0 : List (S52)) : Option ((List (S52))) := spec_poSorted.l0 k ([] : List (S52)) l0 (l0.length : Int) 0
theorem spec_poSorted.mono_l : ∀ k, (∀ y0 y1 y2 y3, LeO (spec_poSorted.l0 k y0 y1 y2 y3) (spec_poSorted.l0 (k + 1) y0 y1 y2 y3)) ∧ (∀ y0 y1 y2 y3 y4 y5 y6, LeO (spec_poSorted.l1 k y0 y1 y2 y3 y4 y5 y6) (spec_poSorted.l1 (k + 1) y0 y1 y2 y3 y4 y5 y6))
 | 0 => ⟨fun _ _ _ _ r h => by simp [spec_poSorted.l0] at h, fun _ _ _ _ _ _ _ r h => by simp [spec_poSorted.l1] at h⟩
 | k + 1 => by
  obtain ⟨ih0, ih1⟩ := spec_poSorted.mono_l k
  refine ⟨?_, ?_⟩
  ·intro y0 y1 y2 y3
   unfold spec_poSorted.l0
   repeat' first
   | (with_reducible exact ih0 _ _ _ _)
   | (with_reducible exact ih1 _ _ _ _ _ _ _)
   | (with_reducible exact LeO.refl _)
   | (with_reducible exact LeO.none _)
   | (with_reducible refine LeO.ite ?_ ?_)
   | (with_reducible refine LeO.bind ?_ (fun _ => ?_))
   | exact ih0 _ _ _ _
   | exact ih1 _ _ _ _ _ _ _
   | exact LeO.none _
   | refine LeO.ite ?_ ?_
   | refine LeO.bind ?_ (fun _ => ?_)
  ·intro y0 y1 y2 y3 y4 y5 y6
   unfold spec_poSorted.l1
   repeat' first
   | (with_reducible exact ih0 _ _ _ _)
   | (with_reducible exact ih1 _ _ _ _ _ _ _)
   | (with_reducible exact LeO.refl _)
   | (with_reducible exact LeO.none _)
   | (with_reducible refine LeO.ite ?_ ?_)
   | (with_reducible refine LeO.bind ?_ (fun _ => ?_))
   | exact ih0 _ _ _ _
   | exact ih1 _ _ _ _ _ _ _
   | exact LeO.none _
   | refine LeO.ite ?_ ?_
   | refine LeO.bind ?_ (fun _ => ?_)
theorem spec_poSorted.mono : ∀ a0 k, LeO (spec_poSorted.f k a0) (spec_poSorted.f (k + 1) a0) := by
 intro a0 k
 obtain ⟨ih0, ih1⟩ := spec_poSorted.mono_l k
 unfold spec_poSorted.f
 repeat' first
   | (with_reducible exact ih0 _ _ _ _)
   | (with_reducible exact ih1 _ _ _ _ _ _ _)
   | (with_reducible exact LeO.refl _)
   | (with_reducible exact LeO.none _)
   | (with_reducible refine LeO.ite ?_ ?_)
   | (with_reducible refine LeO.bind ?_ (fun _ => ?_))
   | exact ih0 _ _ _ _
   | exact ih1 _ _ _ _ _ _ _
   | exact LeO.none _
   | refine LeO.ite ?_ ?_
   | refine LeO.bind ?_ (fun _ => ?_)
def spec_poSorted.T6 : Bool × List (List Nat × List Nat) := (true, [([], []), ([], []), ([1], [1]), ([0, 2], [0, 2]), ([3], [3]), ([4], [4]), ([4], [4]), ([5, 6, 4], [4, 5, 6]), ([7, 4], [4, 7]), ([4], [4]), ([8, 9, 4, 4], [4, 8, 9]), ([4, 10], [4, 10])])
def spec_poSorted.B6 : List Nat := [0, 0, 2, 7, 15, 31, 31, 127, 255, 31, 1023, 2047]
theorem spec_poSorted.tab6 : rtab .any (opsOf Try.f84 6) = spec_poSorted.T6 := by kernel_rfl
theorem spec_poSorted.bits6 : waitsOk spec_poSorted.T6.2 spec_poSorted.B6 = true := by kernel_rfl
def spec_poSorted.T8 : Bool × List (List Nat × List Nat) := (true, [([], []), ([], []), ([], []), ([1, 2], [1, 2]), ([0, 3], [0, 3]), ([], []), ([5], [5]), ([4, 6, 4], [4, 6]), ([7, 7, 0, 1, 2, 3, 4, 5, 6, 7], [7])])
def spec_poSorted.B8 : List Nat := [0, 0, 0, 6, 15, 0, 32, 127, 255]
theorem spec_poSorted.tab8 : rtab .any (opsOf Try.f84 8) = spec_poSorted.T8 := by kernel_rfl
theorem spec_poSorted.bits8 : waitsOk spec_poSorted.T8.2 spec_poSorted.B8 = true := by kernel_rfl
set_option maxHeartbeats 8000000 in
set_option maxRecDepth 100000 in
theorem spec_poSorted.calls (k : Nat) (A0 : Option Addr) (c0 : Nat) (l0 : List (S52)) (r : List (S52)) (w : World) (hr0 : Kd.C k52 w A0 l0.length l0) (hc0 : l0.length ≤ c0) (h : spec_poSorted.f k l0 = some r) :
  Calls Try.prog 84 #[.slice A0 l0.length c0] w fun e w' => ∃ v0_ : Value, e = .returned (v0_) ∧ Kd.R k52 52 w' w.heap.size (fun _ => True) v0_ r ∧ Below w.heap.size w w' := by
 have hu52 := Try.underlying52
 have HR0 := Aside0.mk hr0
 have HC0 := Aside0.mk hc0
 clear hr0 hc0
 have HB := Aside0.mk (Below.refl w.heap.size w)
 have H : (spec_poSorted.l0 k ([] : List (S52)) l0 (l0.length : Int) 0) = some r := h
 clear h
 have H' := Aside0.mk H
 clear H
 go_enter Try.func84, Try.ntmps84
 go_wp2
 go_loopg [3, 10] k (fun kq v3 v10 w' => ∃ (x3_1 : List (S52)) (x10_1 : Int), v10 = .int .i64 x10_1 ∧ Aside0 (spec_poSorted.l0 kq x3_1 l0 (l0.length : Int) x10_1 = some r) ∧ Aside0 (kq ≤ k) ∧ Aside0 (Kd.R k52 52 w' w.heap.size (fun _ => True) v3 x3_1) ∧ Aside0 (Below w.heap.size w w'))
 case atStart => exact ⟨(([] : List (S52))), (0), rsd_, H', ⟨Nat.le_refl _⟩, ⟨by first | exact Kd.R_nil _ _ _ _ _ | exact Kd.N_nil _ _ _ _ _ | exact Kd.V_nil _ _ _ _ _ | exact Kd.Q_nil _ _ _ _ _ | exact Kd.S_nil _ _ _ _ _⟩, ⟨blw_⟩⟩
 case round =>
  clear H'
  try clear HO_3
  obtain ⟨x3_1, x10_1, rfl, HA, HK1, HO_3, HB⟩ := hrel
  cases gk with
  | zero => exact absurd HA.out (by simp [spec_poSorted.l0])
  | succ k1 =>
   have H := HA.out
   clear HA
   simp only [spec_poSorted.l0] at H
   by_cases c2 : x10_1 < (l0.length : Int)
   ·rw [if_pos c2] at H
    have c2b0 : decide (x10_1 < (l0.length : Int)) = true := decide_eq_true c2
    clear c2
    by_cases c3 : 0 ≤ x10_1
    case neg=>rw [if_neg c3] at H;exact absurd H (by simp)
    rw [if_pos c3] at H
    have c3b0 : decide (0 ≤ x10_1) = true := decide_eq_true c3
    clear c3
    by_cases c4 : x10_1 < (l0.length : Int)
    case neg=>rw [if_neg c4] at H;exact absurd H (by simp)
    rw [if_pos c4] at H
    have c4b0 : decide (x10_1 < (l0.length : Int)) = true := decide_eq_true c4
    clear c4
    have H' := Aside0.mk H
    clear H
    have p186 : 0 ≤ (x10_1 : Int) := odt_
    have q186 : x10_1 < (l0.length : Int) := odt_
    obtain ⟨ad186, e186, hx186_0, hx186_1⟩ := at_T52 HR0.out x10_1 p186 q186
    cases e186
    (first | replace hx186_0 := (HB.out.cell (World.block_lt_of_cell? w _ hx186_0)).trans hx186_0 | skip)
    (first | replace hx186_1 := (HB.out.cell (World.block_lt_of_cell? w _ hx186_1)).trans hx186_1 | skip)
    replace p186 := eq_true p186
    replace q186 := eq_true q186
    go_wp2_with (first | ((with_reducible refine gate_dst (N := 5) rfl ?_); refine box_event ?hg (N := 5) ?hd (cs := #[.int .i64 0, .int .i64 0]) (t := 52) ?hr ?_; (case hd => rfl); (case hg => rfl); (case hr => first | (go_simp; done) | (go_simp; rfl)); intro gb187 hg w5 hbox hb; have n0_ := Aside0.mk (Kd.R_below (Kd.R_elderB (ra_ HO_3.out) gb187 (Nat.le_of_eq hg.symm)) hb); have n1_ := Aside0.mk (below_step blw_ hb); have n2_ := Aside0.mk (hbox); have n3_ := Aside0.mk ((by rw [hg]; exact (below_size blw_) : w.heap.size ≤ gb187)); have n4_ := Aside0.mk ((by rw [hg]; exact (below_size blw_) : w.heap.size ≤ gb187)); clear HO_3; clear HB; have HO_3 := n0_; have HB := n1_; have BK187 := n2_; have GW187 := n3_; have GE187 := n4_; clear n0_ n1_ n2_ n3_ n4_; clear hb hbox hg; have hcz6_0 : w5.cell? ⟨gb187, 0, none⟩ = some (.int .i64 0) := (blk_cell BK187.out 0).trans rfl; have hcz6_1 : w5.cell? ⟨gb187, 1, none⟩ = some (.int .i64 0) := (blk_cell BK187.out 1).trans rfl; have hfz6_0 := blk_frozen BK187.out 0; have hfz6_1 := blk_frozen BK187.out 1))
    go_loopg [6] k1 (fun kq v6 w' => ∃ (x6_2 : Int), v6 = .int .i64 x6_2 ∧ Aside0 (spec_poSorted.l1 kq x3_1 x6_2 l0 (l0.length : Int) x10_1 ((rd_T52 l0 x10_1).f0) ((rd_T52 l0 x10_1).f1) = some r) ∧ Aside0 (kq ≤ k1) ∧ Aside0 (Kd.R k52 52 w' w.heap.size (fun k_ => k_ ≠ gb187) u3 x3_1) ∧ Aside0 (w'.heap[gb187]? = some (.cells #[.int .i64 ((rd_T52 l0 x10_1).f0), .int .i64 ((rd_T52 l0 x10_1).f1)] 52 (0, 0))) ∧ Aside0 (Below w.heap.size w w'))
    case atStart => exact ⟨(0), rsd_, H', ⟨Nat.le_refl _⟩, ⟨by (with_reducible repeat (first | apply Kd.R_alloc | apply Kd.R_drewN | apply Kd.R_drew)); exact Kd.R_mono (Kd.R_far (p := ⟨gb187, 1, none⟩) (Kd.R_far (p := ⟨gb187, 0, none⟩) (Kd.R_mono HO_3.out (fun k_ hk => (⟨hk, hk.2⟩ : _ ∧ k_ ≠ gb187))) (fun _ hk => hk.2) (.int .i64 ((rd_T52 l0 x10_1).f0))) (fun _ hk => hk.2) (.int .i64 ((rd_T52 l0 x10_1).f1))) (fun _ hk => hk.1.2)⟩, ⟨by (with_reducible repeat (first | refine blk_drewN ?_ _ | refine blk_drew ?_ | refine blk_alloc ?_ _)); refine blk_put (cs := #[.int .i64 ((rd_T52 l0 x10_1).f0), .int .i64 0]) ?_ 1 _ rfl; (with_reducible repeat (first | refine blk_drewN ?_ _ | refine blk_drew ?_ | refine blk_alloc ?_ _)); refine blk_put (cs := #[.int .i64 0, .int .i64 0]) ?_ 0 _ rfl; (with_reducible repeat (first | refine blk_drewN ?_ _ | refine blk_drew ?_ | refine blk_alloc ?_ _)); exact BK187.out⟩, ⟨bls_⟩⟩
    case round =>
     clear H'
     try clear p1
     try clear q1
     try clear hx1
     try clear c2
     try clear c2b0
     try clear p2
     try clear c3
     try clear c3b0
     try clear c4
     try clear c4b0
     try clear hcz6_0
     try clear hcz6_1
     try clear hfz6_0
     try clear hfz6_1
     try clear hx186_0
     try clear hx186_1
     try clear p186
     try clear q186
     try clear HO_3
     obtain ⟨x6_2, rfl, HA, HK2, HO_3, BK187, HB⟩ := hrel
     cases gk with
     | zero => exact absurd HA.out (by simp [spec_poSorted.l1])
     | succ k2 =>
      have H := HA.out
      clear HA
      simp only [spec_poSorted.l1] at H
      by_cases c7 : x6_2 < (x3_1.length : Int)
      ·rw [if_pos c7] at H
       have c7b0 : decide (x6_2 < (x3_1.length : Int)) = true := decide_eq_true c7
       clear c7
       by_cases c8 : 0 ≤ x6_2
       case neg=>rw [if_neg c8] at H;exact absurd H (by simp)
       rw [if_pos c8] at H
       have c8b0 : decide (0 ≤ x6_2) = true := decide_eq_true c8
       clear c8
       replace H := Option.bind_eq_some_iff.mp H
       obtain ⟨t189, A90, H⟩ := H
       replace H : (if t189 = true then (spec_poSorted.l1 k2 x3_1 (wrap64 (x6_2 + 1)) l0 (l0.length : Int) x10_1 ((rd_T52 l0 x10_1).f0) ((rd_T52 l0 x10_1).f1)) else ((some (([] : List (S52)) : List (S52))).bind fun y190 => (if x6_2 ≤ (x3_1.length : Int) then ((some (x3_1.take (x6_2 : Int).toNat : List (S52))).bind fun y193 => (if y190.length + y193.length < 8796093022208 then ((some (y190 ++ y193 : List (S52))).bind fun y197 => ((some (([(⟨((rd_T52 l0 x10_1).f0), ((rd_T52 l0 x10_1).f1)⟩ : S52)] : List (S52)) : List (S52))).bind fun y200 => (if y197.length + y200.length < 8796093022208 then ((some (y197 ++ y200 : List (S52))).bind fun y203 => ((some (x3_1.drop (x6_2 : Int).toNat : List (S52))).bind fun y206 => (if y203.length + y206.length < 8796093022208 then (spec_poSorted.l0 k2 (y203 ++ y206) l0 (l0.length : Int) (wrap64 (x10_1 + 1))) else (none)))) else (none)))) else (none))) else (none)))) = some r := H
       have A9 := Aside0.mk A90
       clear A90
       by_cases c10 : t189 = true
       ·subst c10
        have H1 : (spec_poSorted.l1 k2 x3_1 (wrap64 (x6_2 + 1)) l0 (l0.length : Int) x10_1 ((rd_T52 l0 x10_1).f0) ((rd_T52 l0 x10_1).f1)) = some r := by rw [if_pos rfl] at H; exact H
        clear H
        have H := H1
        clear H1
        have H' := Aside0.mk H
        clear H
        try go_wp2
        have n0_ := Aside0.mk (Kd.R_drew HO_3.out)
        have n1_ := Aside0.mk (blk_drew BK187.out)
        have n2_ := Aside0.mk (below_drew1 HB.out)
        clear HO_3
        clear BK187
        clear HB
        have HO_3 := n0_
        have BK187 := n1_
        have HB := n2_
        clear n0_ n1_ n2_
        obtain ⟨Ao12, co12, eo12⟩ := Kd.R_slice HO_3.out
        (first | subst eo12 | (injection eo12 with f1_ f2_ f3_; have f4_ := f1_.symm; have f5_ := f3_.symm; clear f1_ f2_ f3_; subst f4_; subst f5_))
        have p188 : 0 ≤ (x6_2 : Int) := odt_
        have q188 : x6_2 < (x3_1.length : Int) := odt_
        obtain ⟨ad188, e188, hx188_0, hx188_1⟩ := at_T52 (Kd.R_reads' HO_3.out).2.2 x6_2 p188 q188
        cases e188
        replace p188 := eq_true p188
        replace q188 := eq_true q188
        refine start_ (n := 12) (S := fun w' => w'.cell? ⟨gb187, 0, none⟩ = some (.int .i64 ((rd_T52 l0 x10_1).f0)) ∧ w'.cell? ⟨gb187, 1, none⟩ = some (.int .i64 ((rd_T52 l0 x10_1).f1)) ∧ w'.cell? (ad188.add ((x6_2).toNat * 2)) = some (.int .i64 ((rd_T52 x3_1 x6_2).f0)) ∧ w'.cell? ⟨(ad188.add ((x6_2).toNat * 2)).block, (ad188.add ((x6_2).toNat * 2)).off + 1, none⟩ = some (.int .i64 ((rd_T52 x3_1 x6_2).f1))) (ds := []) #[false, false, false, false, false, false, false, false, false, false, false, false] (by kernel_rfl) rfl rfl ⟨(blk_cell BK187.out 0).trans rfl, (blk_cell BK187.out 1).trans rfl, hx188_0, hx188_1⟩ (fun hHeld => ?_); refine with_tabW spec_poSorted.tab6 spec_poSorted.bits6 (fun HT_ HW_ => ?_)
        generalize wr.drew = w11 at HO_3 BK187 HB hx188_0 hx188_1 hHeld ⊢
        refine pux_ 0 14 HT_ ?_
        refine pux_ 1 15 HT_ ?_
        refine pux_ 2 16 HT_ ?_
        refine pux_ 3 17 HT_ ?_
        refine pux_ 4 18 HT_ ?_
        refine pux_ 5 19 HT_ ?_
        refine pux_ 6 20 HT_ ?_
        refine pux_ 7 21 HT_ ?_
        refine take_ (i := 8) (N := some 22) (v := ?_) (a' := ?_) #[true, true, true, true, true, true, true, true, true, false, false, false] rfl rfl (take_ofW HT_.out HW_.out (by kernel_rfl)) (fun _ _ _ h => h) (Or.inl ⟨by rfl, ?_⟩) hHeld ?_ ?_
        rotate_left
        ·rintro w' ⟨s0, s1, s2, s3⟩
         go_simp
         with_reducible rfl
        rotate_left
        ·exact ap_
        refine take_ (i := 9) (N := some 23) (v := ?_) (a' := ?_) #[true, true, true, true, true, true, true, true, true, true, false, false] rfl rfl (take_ofW HT_.out HW_.out (by kernel_rfl)) (fun _ _ _ h => h) (Or.inl ⟨by rfl, ?_⟩) hHeld ?_ ?_
        rotate_left
        ·rintro w' ⟨s0, s1, s2, s3⟩
         go_simp
         with_reducible rfl
        rotate_left
        ·exact ap_
        refine one_ (i := 10) (N := some 24) #[true, true, true, true, true, true, true, true, true, true, true, false] rfl rfl (one_of HT_.out (by kernel_rfl)) (by decide) (fun K hK => ?_)
        refine goes_ Try.func94 (by kernel_rfl) rfl #[.agg #[.int .i64 ((rd_T52 x3_1 x6_2).f0), .int .i64 ((rd_T52 x3_1 x6_2).f1)], .agg #[.int .i64 ((rd_T52 l0 x10_1).f0), .int .i64 ((rd_T52 l0 x10_1).f1)]] (by rfl) rfl rfl amp_ ?_
        with_reducible refine (spec_poLess.calls ((rd_T52 x3_1 x6_2).f0) ((rd_T52 x3_1 x6_2).f1) ((rd_T52 l0 x10_1).f0) ((rd_T52 l0 x10_1).f1) true _ A9.out).mono ?_
        rintro e w13 ⟨rfl, hb⟩
        have HS2_ := (hb.cell (World.block_lt_of_cell? _ _ (hHeld.2.2.1))).trans (hHeld.2.2.1)
        have HS3_ := (hb.cell (World.block_lt_of_cell? _ _ (hHeld.2.2.2))).trans (hHeld.2.2.2)
        refine ⟨_, rfl, ?_⟩
        have n0_ := Aside0.mk (Kd.R_below (ra_ HO_3.out) hb)
        have n1_ := Aside0.mk (blk_below (g := gb187) (o := .cells #[.int .i64 ((rd_T52 l0 x10_1).f0), .int .i64 ((rd_T52 l0 x10_1).f1)] 52 (0, 0)) (bk_ BK187.out) hb)
        have n2_ := Aside0.mk (below_step bls_ hb)
        clear HO_3
        clear BK187
        clear HB
        have HO_3 := n0_
        have BK187 := n1_
        have HB := n2_
        clear n0_ n1_ n2_
        (try clear hb)
        (try clear hb2)
        (try clear hk)
        (try clear hi)
        refine hK.out _ _ ⟨(blk_cell BK187.out 0).trans rfl, (blk_cell BK187.out 1).trans rfl, HS2_, HS3_⟩ (fun hHeld => ?_)
        clear hK K
        refine nor_ 24 ?_
        refine pux_ 11 25 HT_ ?_
        refine done_ (done_of HT_.out (by kernel_rfl)) ?_
        try go_wp2
        go_roundg k2
        case measure => have := HK1.out; have := HK2.out; omega
        case rel => exact ⟨(wrap64 (x6_2 + 1)), rsd_, H', ⟨by have := HK1.out; have := HK2.out; omega⟩, ⟨ra_ HO_3.out⟩, ⟨bk_ BK187.out⟩, ⟨bls_⟩⟩
       ·replace c10 := Bool.eq_false_iff.mpr c10
        subst c10
        have H1 : ((some (([] : List (S52)) : List (S52))).bind fun y190 => (if x6_2 ≤ (x3_1.length : Int) then ((some (x3_1.take (x6_2 : Int).toNat : List (S52))).bind fun y193 => (if y190.length + y193.length < 8796093022208 then ((some (y190 ++ y193 : List (S52))).bind fun y197 => ((some (([(⟨((rd_T52 l0 x10_1).f0), ((rd_T52 l0 x10_1).f1)⟩ : S52)] : List (S52)) : List (S52))).bind fun y200 => (if y197.length + y200.length < 8796093022208 then ((some (y197 ++ y200 : List (S52))).bind fun y203 => ((some (x3_1.drop (x6_2 : Int).toNat : List (S52))).bind fun y206 => (if y203.length + y206.length < 8796093022208 then (spec_poSorted.l0 k2 (y203 ++ y206) l0 (l0.length : Int) (wrap64 (x10_1 + 1))) else (none)))) else (none)))) else (none))) else (none))) = some r := by rw [if_neg (show ¬ (false = true) by decide)] at H; exact H
        clear H
        have H := H1
        clear H1
        obtain ⟨y190, hy190⟩ : ∃ y_ : List (S52), y_ = (([] : List (S52))) := ⟨_, rfl⟩
        replace H : (if x6_2 ≤ (x3_1.length : Int) then ((some (x3_1.take (x6_2 : Int).toNat : List (S52))).bind fun y193 => (if y190.length + y193.length < 8796093022208 then ((some (y190 ++ y193 : List (S52))).bind fun y197 => ((some (([(⟨((rd_T52 l0 x10_1).f0), ((rd_T52 l0 x10_1).f1)⟩ : S52)] : List (S52)) : List (S52))).bind fun y200 => (if y197.length + y200.length < 8796093022208 then ((some (y197 ++ y200 : List (S52))).bind fun y203 => ((some (x3_1.drop (x6_2 : Int).toNat : List (S52))).bind fun y206 => (if y203.length + y206.length < 8796093022208 then (spec_poSorted.l0 k2 (y203 ++ y206) l0 (l0.length : Int) (wrap64 (x10_1 + 1))) else (none)))) else (none)))) else (none))) else (none)) = some r := by first | (rw [hy190]; with_reducible exact H) | (have H2_ := (Option.bind_some _ _).symm.trans H; rw [hy190]; with_reducible exact H2_) | (have H2_ := (Option.bind_some _ _).symm.trans H; with_reducible exact H2_) | with_reducible exact H | (rw [hy190]; exact H) | exact H
        have Ny190 := Aside0.mk hy190
        clear hy190
        have c14b0 := eq_true (odt_ : 0 ≤ x6_2)
        by_cases c15 : x6_2 ≤ (x3_1.length : Int)
        case neg=>rw [if_neg c15] at H;exact absurd H (by simp)
        rw [if_pos c15] at H
        have c15b0 := eq_true c15
        have c15b1 : decide (x6_2 ≤ (x3_1.length : Int)) = true := decide_eq_true c15
        clear c15
        obtain ⟨y193, hy193⟩ : ∃ y_ : List (S52), y_ = (x3_1.take (x6_2 : Int).toNat) := ⟨_, rfl⟩
        replace H : (if y190.length + y193.length < 8796093022208 then ((some (y190 ++ y193 : List (S52))).bind fun y197 => ((some (([(⟨((rd_T52 l0 x10_1).f0), ((rd_T52 l0 x10_1).f1)⟩ : S52)] : List (S52)) : List (S52))).bind fun y200 => (if y197.length + y200.length < 8796093022208 then ((some (y197 ++ y200 : List (S52))).bind fun y203 => ((some (x3_1.drop (x6_2 : Int).toNat : List (S52))).bind fun y206 => (if y203.length + y206.length < 8796093022208 then (spec_poSorted.l0 k2 (y203 ++ y206) l0 (l0.length : Int) (wrap64 (x10_1 + 1))) else (none)))) else (none)))) else (none)) = some r := by first | (rw [hy193]; with_reducible exact H) | (have H2_ := (Option.bind_some _ _).symm.trans H; rw [hy193]; with_reducible exact H2_) | (have H2_ := (Option.bind_some _ _).symm.trans H; with_reducible exact H2_) | with_reducible exact H | (rw [hy193]; exact H) | exact H
        have Ny193 := Aside0.mk hy193
        clear hy193
        by_cases c16 : y190.length + y193.length < 8796093022208
        case neg=>rw [if_neg c16] at H;exact absurd H (by simp)
        rw [if_pos c16] at H
        have LMc16 := Aside0.mk c16
        clear c16
        obtain ⟨y197, hy197⟩ : ∃ y_ : List (S52), y_ = (y190 ++ y193) := ⟨_, rfl⟩
        replace H : ((some (([(⟨((rd_T52 l0 x10_1).f0), ((rd_T52 l0 x10_1).f1)⟩ : S52)] : List (S52)) : List (S52))).bind fun y200 => (if y197.length + y200.length < 8796093022208 then ((some (y197 ++ y200 : List (S52))).bind fun y203 => ((some (x3_1.drop (x6_2 : Int).toNat : List (S52))).bind fun y206 => (if y203.length + y206.length < 8796093022208 then (spec_poSorted.l0 k2 (y203 ++ y206) l0 (l0.length : Int) (wrap64 (x10_1 + 1))) else (none)))) else (none))) = some r := by first | (rw [hy197]; with_reducible exact H) | (have H2_ := (Option.bind_some _ _).symm.trans H; rw [hy197]; with_reducible exact H2_) | (have H2_ := (Option.bind_some _ _).symm.trans H; with_reducible exact H2_) | with_reducible exact H | (rw [hy197]; exact H) | exact H
        have Ny197 := Aside0.mk hy197
        clear hy197
        obtain ⟨y200, hy200⟩ : ∃ y_ : List (S52), y_ = (([(⟨((rd_T52 l0 x10_1).f0), ((rd_T52 l0 x10_1).f1)⟩ : S52)] : List (S52))) := ⟨_, rfl⟩
        replace H : (if y197.length + y200.length < 8796093022208 then ((some (y197 ++ y200 : List (S52))).bind fun y203 => ((some (x3_1.drop (x6_2 : Int).toNat : List (S52))).bind fun y206 => (if y203.length + y206.length < 8796093022208 then (spec_poSorted.l0 k2 (y203 ++ y206) l0 (l0.length : Int) (wrap64 (x10_1 + 1))) else (none)))) else (none)) = some r := by first | (rw [hy200]; with_reducible exact H) | (have H2_ := (Option.bind_some _ _).symm.trans H; rw [hy200]; with_reducible exact H2_) | (have H2_ := (Option.bind_some _ _).symm.trans H; with_reducible exact H2_) | with_reducible exact H | (rw [hy200]; exact H) | exact H
        have Ny200 := Aside0.mk hy200
        clear hy200
        by_cases c17 : y197.length + y200.length < 8796093022208
        case neg=>rw [if_neg c17] at H;exact absurd H (by simp)
        rw [if_pos c17] at H
        have LMc17 := Aside0.mk c17
        clear c17
        obtain ⟨y203, hy203⟩ : ∃ y_ : List (S52), y_ = (y197 ++ y200) := ⟨_, rfl⟩
        replace H : ((some (x3_1.drop (x6_2 : Int).toNat : List (S52))).bind fun y206 => (if y203.length + y206.length < 8796093022208 then (spec_poSorted.l0 k2 (y203 ++ y206) l0 (l0.length : Int) (wrap64 (x10_1 + 1))) else (none))) = some r := by first | (rw [hy203]; with_reducible exact H) | (have H2_ := (Option.bind_some _ _).symm.trans H; rw [hy203]; with_reducible exact H2_) | (have H2_ := (Option.bind_some _ _).symm.trans H; with_reducible exact H2_) | with_reducible exact H | (rw [hy203]; exact H) | exact H
        have Ny203 := Aside0.mk hy203
        clear hy203
        have c18b0 := eq_true (odt_ : 0 ≤ x6_2)
        have c19b0 := eq_true (odt_ : x6_2 ≤ (x3_1.length : Int))
        obtain ⟨y206, hy206⟩ : ∃ y_ : List (S52), y_ = (x3_1.drop (x6_2 : Int).toNat) := ⟨_, rfl⟩
        replace H : (if y203.length + y206.length < 8796093022208 then (spec_poSorted.l0 k2 (y203 ++ y206) l0 (l0.length : Int) (wrap64 (x10_1 + 1))) else (none)) = some r := by first | (rw [hy206]; with_reducible exact H) | (have H2_ := (Option.bind_some _ _).symm.trans H; rw [hy206]; with_reducible exact H2_) | (have H2_ := (Option.bind_some _ _).symm.trans H; with_reducible exact H2_) | with_reducible exact H | (rw [hy206]; exact H) | exact H
        have Ny206 := Aside0.mk hy206
        clear hy206
        by_cases c20 : y203.length + y206.length < 8796093022208
        case neg=>rw [if_neg c20] at H;exact absurd H (by simp)
        rw [if_pos c20] at H
        have LMc20 := Aside0.mk c20
        clear c20
        obtain ⟨y210, hy210⟩ : ∃ y_ : List (S52), y_ = (y203 ++ y206) := ⟨_, rfl⟩
        replace H : (spec_poSorted.l0 k2 y210 l0 (l0.length : Int) (wrap64 (x10_1 + 1))) = some r := by first | (rw [hy210]; with_reducible exact H) | (have H2_ := (Option.bind_some _ _).symm.trans H; rw [hy210]; with_reducible exact H2_) | (have H2_ := (Option.bind_some _ _).symm.trans H; with_reducible exact H2_) | with_reducible exact H | (rw [hy210]; exact H) | exact H
        have Ny210 := Aside0.mk hy210
        clear hy210
        have H' := Aside0.mk H
        clear H
        try go_wp2
        have n0_ := Aside0.mk (Kd.R_drew HO_3.out)
        have n1_ := Aside0.mk (blk_drew BK187.out)
        have n2_ := Aside0.mk (below_drew1 HB.out)
        clear HO_3
        clear BK187
        clear HB
        have HO_3 := n0_
        have BK187 := n1_
        have HB := n2_
        clear n0_ n1_ n2_
        obtain ⟨Ao22, co22, eo22⟩ := Kd.R_slice HO_3.out
        (first | subst eo22 | (injection eo22 with f1_ f2_ f3_; have f4_ := f1_.symm; have f5_ := f3_.symm; clear f1_ f2_ f3_; subst f4_; subst f5_))
        have p188 : 0 ≤ (x6_2 : Int) := odt_
        have q188 : x6_2 < (x3_1.length : Int) := odt_
        obtain ⟨ad188, e188, hx188_0, hx188_1⟩ := at_T52 (Kd.R_reads' HO_3.out).2.2 x6_2 p188 q188
        cases e188
        replace p188 := eq_true p188
        replace q188 := eq_true q188
        refine start_ (n := 12) (S := fun w' => w'.cell? ⟨gb187, 0, none⟩ = some (.int .i64 ((rd_T52 l0 x10_1).f0)) ∧ w'.cell? ⟨gb187, 1, none⟩ = some (.int .i64 ((rd_T52 l0 x10_1).f1)) ∧ w'.cell? (ad188.add ((x6_2).toNat * 2)) = some (.int .i64 ((rd_T52 x3_1 x6_2).f0)) ∧ w'.cell? ⟨(ad188.add ((x6_2).toNat * 2)).block, (ad188.add ((x6_2).toNat * 2)).off + 1, none⟩ = some (.int .i64 ((rd_T52 x3_1 x6_2).f1))) (ds := []) #[false, false, false, false, false, false, false, false, false, false, false, false] (by kernel_rfl) rfl rfl ⟨(blk_cell BK187.out 0).trans rfl, (blk_cell BK187.out 1).trans rfl, hx188_0, hx188_1⟩ (fun hHeld => ?_); refine with_tabW spec_poSorted.tab6 spec_poSorted.bits6 (fun HT_ HW_ => ?_)
        generalize wr.drew = w21 at HO_3 BK187 HB hx188_0 hx188_1 hHeld ⊢
        refine pux_ 0 14 HT_ ?_
        refine pux_ 1 15 HT_ ?_
        refine pux_ 2 16 HT_ ?_
        refine pux_ 3 17 HT_ ?_
        refine pux_ 4 18 HT_ ?_
        refine pux_ 5 19 HT_ ?_
        refine pux_ 6 20 HT_ ?_
        refine pux_ 7 21 HT_ ?_
        refine take_ (i := 8) (N := some 22) (v := ?_) (a' := ?_) #[true, true, true, true, true, true, true, true, true, false, false, false] rfl rfl (take_ofW HT_.out HW_.out (by kernel_rfl)) (fun _ _ _ h => h) (Or.inl ⟨by rfl, ?_⟩) hHeld ?_ ?_
        rotate_left
        ·rintro w' ⟨s0, s1, s2, s3⟩
         go_simp
         with_reducible rfl
        rotate_left
        ·exact ap_
        refine take_ (i := 9) (N := some 23) (v := ?_) (a' := ?_) #[true, true, true, true, true, true, true, true, true, true, false, false] rfl rfl (take_ofW HT_.out HW_.out (by kernel_rfl)) (fun _ _ _ h => h) (Or.inl ⟨by rfl, ?_⟩) hHeld ?_ ?_
        rotate_left
        ·rintro w' ⟨s0, s1, s2, s3⟩
         go_simp
         with_reducible rfl
        rotate_left
        ·exact ap_
        refine one_ (i := 10) (N := some 24) #[true, true, true, true, true, true, true, true, true, true, true, false] rfl rfl (one_of HT_.out (by kernel_rfl)) (by decide) (fun K hK => ?_)
        refine goes_ Try.func94 (by kernel_rfl) rfl #[.agg #[.int .i64 ((rd_T52 x3_1 x6_2).f0), .int .i64 ((rd_T52 x3_1 x6_2).f1)], .agg #[.int .i64 ((rd_T52 l0 x10_1).f0), .int .i64 ((rd_T52 l0 x10_1).f1)]] (by rfl) rfl rfl amp_ ?_
        with_reducible refine (spec_poLess.calls ((rd_T52 x3_1 x6_2).f0) ((rd_T52 x3_1 x6_2).f1) ((rd_T52 l0 x10_1).f0) ((rd_T52 l0 x10_1).f1) false _ A9.out).mono ?_
        rintro e w23 ⟨rfl, hb⟩
        have HS2_ := (hb.cell (World.block_lt_of_cell? _ _ (hHeld.2.2.1))).trans (hHeld.2.2.1)
        have HS3_ := (hb.cell (World.block_lt_of_cell? _ _ (hHeld.2.2.2))).trans (hHeld.2.2.2)
        refine ⟨_, rfl, ?_⟩
        have n0_ := Aside0.mk (Kd.R_below (ra_ HO_3.out) hb)
        have n1_ := Aside0.mk (blk_below (g := gb187) (o := .cells #[.int .i64 ((rd_T52 l0 x10_1).f0), .int .i64 ((rd_T52 l0 x10_1).f1)] 52 (0, 0)) (bk_ BK187.out) hb)
        have n2_ := Aside0.mk (below_step bls_ hb)
        clear HO_3
        clear BK187
        clear HB
        have HO_3 := n0_
        have BK187 := n1_
        have HB := n2_
        clear n0_ n1_ n2_
        (try clear hb)
        (try clear hb2)
        (try clear hk)
        (try clear hi)
        refine hK.out _ _ ⟨(blk_cell BK187.out 0).trans rfl, (blk_cell BK187.out 1).trans rfl, HS2_, HS3_⟩ (fun hHeld => ?_)
        clear hK K
        refine nor_ 24 ?_
        refine pux_ 11 25 HT_ ?_
        refine done_ (done_of HT_.out (by kernel_rfl)) ?_
        try go_wp2
        have n0_ := Aside0.mk (Kd.R_drew HO_3.out)
        have n1_ := Aside0.mk (blk_drew BK187.out)
        have n2_ := Aside0.mk (below_drew1 HB.out)
        clear HO_3
        clear BK187
        clear HB
        have HO_3 := n0_
        have BK187 := n1_
        have HB := n2_
        clear n0_ n1_ n2_
        have q25 : (x6_2 : Int) ≤ ((x3_1.length : Int) : Int) := odt_
        obtain ⟨i025, hi025, _, hsz25, _⟩ := info_parts info52
        have hroom25 : x3_1.length ≤ co22 := (Kd.R_reads' HO_3.out).2.1
        have hC25 : Kd.C k52 _ (some ad188) x3_1.length x3_1 := (Kd.R_reads' HO_3.out).2.2
        have hcut25 := cut_to (P := Try.prog) 41 52 .i64 Try.underlying41 hi025 (some ad188) x3_1.length co22 x6_2 (odt_) q25 hroom25
        have hr25 := Kd.C_take (m := (x6_2 : Int).toNat) hC25 (by omega)
        have hy25 : y193.length = (x6_2 : Int).toNat := (by rw [Ny193.out, List.length_take]; omega)
        rw [← Ny193.out] at hr25
        rw [← hy25] at hcut25
        have HR196 := Aside0.mk hr25
        have HC196 := Aside0.mk (show y193.length ≤ co22 from by omega)
        clear hr25 hC25 hroom25 hi025 hsz25
        have KY25 := Aside0.mk hy25
        clear hy25
        have KL25 := Aside0.mk (show (x6_2 : Int).toNat ≤ x3_1.length from by omega)
        replace q25 := eq_true q25
        refine start_ (n := 9) (S := fun w' => w'.cell? ⟨gb187, 0, none⟩ = some (.int .i64 ((rd_T52 l0 x10_1).f0)) ∧ w'.cell? ⟨gb187, 1, none⟩ = some (.int .i64 ((rd_T52 l0 x10_1).f1))) (ds := []) #[false, false, false, false, false, false, false, false, false] (by kernel_rfl) rfl rfl ⟨(blk_cell BK187.out 0).trans rfl, (blk_cell BK187.out 1).trans rfl⟩ (fun hHeld => ?_); refine with_tabW spec_poSorted.tab8 spec_poSorted.bits8 (fun HT_ HW_ => ?_)
        generalize w23.drew = w24 at HO_3 BK187 HB HR196 hHeld ⊢
        refine pux_ 1 29 HT_ ?_
        refine pux_ 2 30 HT_ ?_
        refine pux_ 3 31 HT_ ?_
        refine take_ (i := 5) (N := some 33) (v := ?_) (a' := ?_) #[false, true, true, true, false, true, false, false, false] rfl rfl (take_ofW HT_.out HW_.out (by kernel_rfl)) (fun _ _ _ h => h) (Or.inl ⟨by rfl, ?_⟩) hHeld ?_ ?_
        rotate_left
        ·rintro w' ⟨s0, s1⟩
         go_simp
         with_reducible rfl
        rotate_left
        ·exact ap_
        refine join_ (σ := Value × Value × Value) 2 #[true, true, true, true, true, true, true, false, false] (fun s_ => [(28, s_.1), (32, s_.2.1), (34, s_.2.2)]) (fun s_ w' => (w'.cell? ⟨gb187, 0, none⟩ = some (.int .i64 ((rd_T52 l0 x10_1).f0)) ∧ w'.cell? ⟨gb187, 1, none⟩ = some (.int .i64 ((rd_T52 l0 x10_1).f1))) ∧ (Kd.R k52 52 w' w.heap.size (fun k_ => some k_ ≠ (s_.2.2 : Value).ownBlock ∧ some k_ ≠ (.slice (some ad188) x3_1.length co22 : Value).ownBlock ∧ k_ ≠ gb187) s_.2.1 y197) ∧ (Kd.R k52 52 w' w.heap.size (fun k_ => some k_ ≠ (s_.2.1 : Value).ownBlock ∧ some k_ ≠ (.slice (some ad188) x3_1.length co22 : Value).ownBlock ∧ k_ ≠ gb187) s_.2.2 y200) ∧ (Kd.R k52 52 w' w.heap.size (fun k_ => some k_ ≠ (s_.2.1 : Value).ownBlock ∧ some k_ ≠ (s_.2.2 : Value).ownBlock ∧ k_ ≠ gb187) (.slice (some ad188) x3_1.length co22) x3_1) ∧ (w'.heap[gb187]? = some (.cells #[.int .i64 ((rd_T52 l0 x10_1).f0), .int .i64 ((rd_T52 l0 x10_1).f1)] 52 (0, 0))) ∧ (Below w.heap.size w w')) ?_ ?_
        rotate_left
        ·intro hCont
         refine two_ (i := 0) (j := 6) (Ni := some 28) (Nj := some 34) #[true, true, true, true, false, true, false, false, false] #[false, true, true, true, false, true, true, false, false] rfl rfl rfl rfl (two_of HT_.out (by kernel_rfl)) (by decide) (by decide) (fun K hK => ?_) (fun K hK => ?_)
         ·skip
          refine Kd.R_lit_step k52 _ 52 ?hg (N := 28) ?hd (xs := ([] : List (S52))) (inner := []) (ok := fun _ => True) (okp := fun _ => True) ?hr ?hp (fun _ hk => hk) trivial (Below.refl _ _) (Nat.le_refl _) (by simp) ?_; (case hd => rfl); (case hg => rfl); (case hr => first | (go_simp; done) | (go_simp; rfl)); (case hp => exact (Reps.none _ _))
          intro v191 w26 ho27 hb hg_ hnew_
          clear hg_ hnew_
          (first | rw [← Ny190.out] at ho27 | (simp only [Int.reduceToNat] at ho27; rw [← Ny190.out] at ho27))
          have n0_ := Aside0.mk (Kd.R_elder' (ra_ HO_3.out) (Kd.R_base ho27) hb)
          have n1_ := Aside0.mk (Kd.R_lower (Kd.R_newB (Kd.R_new' ho27 (Kd.R_lt (ra_ HO_3.out))) (g := gb187) (o := .cells #[.int .i64 ((rd_T52 l0 x10_1).f0), .int .i64 ((rd_T52 l0 x10_1).f1)] 52 (0, 0)) (bk_ BK187.out)) (below_size bls_))
          have n2_ := Aside0.mk (blk_below (g := gb187) (o := .cells #[.int .i64 ((rd_T52 l0 x10_1).f0), .int .i64 ((rd_T52 l0 x10_1).f1)] 52 (0, 0)) (bk_ BK187.out) hb)
          have n3_ := Aside0.mk (Kd.C_below (by repeat (first | (with_reducible exact HR196.out) | (with_reducible refine Kd.C_alloc ?_ _) | (with_reducible refine Kd.C_drewN ?_ _) | (with_reducible refine Kd.C_drew ?_) | exact HR196.out)) hb)
          have n4_ := Aside0.mk (below_step bls_ hb)
          clear HO_3
          clear BK187
          clear HR196
          clear HB
          have HO_3 := n0_
          have HO192 := n1_
          have BK187 := n2_
          have HR196 := n3_
          have HB := n4_
          clear n0_ n1_ n2_ n3_ n4_
          clear hb ho27
          refine hK.out _ _ ⟨(blk_cell BK187.out 0).trans rfl, (blk_cell BK187.out 1).trans rfl⟩ (fun hHeld => ?_)
          clear hK K
          refine nor_ 28 ?_
          refine two_ (i := 4) (j := 6) (Ni := some 32) (Nj := some 34) #[true, true, true, true, true, true, false, false, false] #[true, true, true, true, false, true, true, false, false] rfl rfl rfl rfl (two_of HT_.out (by kernel_rfl)) (by decide) (by decide) (fun K hK => ?_) (fun K hK => ?_)
          ·skip
           refine Kd.R_append_rows_step k52 (w0 := w) w.heap.size (by rfl) (.tmp 28) (.tmp 31) 41 52 (.agg #[(.int .i64 0), (.int .i64 0)]) 16 rfl Try.underlying41 info52 rfl (by decide) (by omega) v191 y190 y193 _ _ _ (fun k_ => some k_ ≠ (.slice (some ad188) x3_1.length co22 : Value).ownBlock ∧ k_ ≠ gb187) (fun _ => False) rfl rfl ?aO ?aR (fun _ _ h => h) (fun _ h => h.elim) ?aF ?aB ?aS ?aL ?_
           (case aR => repeat (first | exact (by repeat (first | (with_reducible exact HR196.out) | (with_reducible refine Kd.C_alloc ?_ _) | (with_reducible refine Kd.C_drewN ?_ _) | (with_reducible refine Kd.C_drew ?_) | exact HR196.out)) | (with_reducible refine Kd.C_alloc ?_ _) | (with_reducible refine Kd.C_drewN ?_ _) | (with_reducible refine Kd.C_drew ?_)))
           (case aB => exact bls_)
           (case aF => exact (fun k_ hk => ⟨Kd.fresh' (Kd.R_lt (ra_ HO_3.out)) k_ hk, Kd.freshB (g := gb187) (o := .cells #[.int .i64 ((rd_T52 l0 x10_1).f0), .int .i64 ((rd_T52 l0 x10_1).f1)] 52 (0, 0)) (bk_ BK187.out) k_ hk⟩))
           (case aO => exact (by (with_reducible repeat (first | apply Kd.R_alloc | apply Kd.R_drewN | apply Kd.R_drew)); exact Kd.R_mono HO192.out (fun _ hk => ⟨hk.1.2, hk.2⟩)))
           (case aS => exact (below_size bls_))
           (case aL => have := LMc16.out; omega)
           intro v198 w28 ho hb hg hat
           rw [← Ny197.out] at ho
           have n0_ := Aside0.mk (Kd.R_after (ok := (fun k_ => k_ ≠ gb187)) (ra_ HO_3.out) hg hat)
           have n1_ := Aside0.mk (blk_grown (g := gb187) (o := .cells #[.int .i64 ((rd_T52 l0 x10_1).f0), .int .i64 ((rd_T52 l0 x10_1).f1)] 52 (0, 0)) (bk_ BK187.out) hg (Kd.R_away HO192.out (fun _ hk => hk.2)))
           have n2_ := Aside0.mk (hb)
           have n3_ := Aside0.mk ((show Kd.C k52 w28 (some ad188) y193.length y193 from by rw [Ny193.out]; exact Kd.C_take (m := (x6_2 : Int).toNat) ((Kd.R_reads' (Kd.R_after (ok := (fun k_ => k_ ≠ gb187)) (ra_ HO_3.out) hg hat)).2.2) KL25.out))
           have n4_ := Aside0.mk (ho)
           clear HO_3
           clear BK187
           clear HB
           clear HR196
           clear HO192
           have HO_3 := n0_
           have BK187 := n1_
           have HB := n2_
           have HR196 := n3_
           have HO199 := n4_
           clear n0_ n1_ n2_ n3_ n4_
           clear ho hb hg hat
           refine hK.out _ _ ⟨(blk_cell BK187.out 0).trans rfl, (blk_cell BK187.out 1).trans rfl⟩ (fun hHeld => ?_)
           clear hK K
           refine nor_ 32 ?_
           refine one_ (i := 6) (N := some 34) #[true, true, true, true, true, true, true, false, false] rfl rfl (one_of HT_.out (by kernel_rfl)) (by decide) (fun K hK => ?_)
           refine Kd.R_lit_step k52 _ 52 ?hg (N := 34) ?hd (xs := ([(⟨((rd_T52 l0 x10_1).f0), ((rd_T52 l0 x10_1).f1)⟩ : S52)] : List (S52))) (inner := [.int .i64 ((rd_T52 l0 x10_1).f0), .int .i64 ((rd_T52 l0 x10_1).f1)]) (ok := fun _ => True) (okp := fun _ => True) ?hr ?hp (fun _ hk => hk) trivial (Below.refl _ _) (Nat.le_refl _) (by simp) ?_; (case hd => rfl); (case hg => rfl); (case hr => first | (go_simp; done) | (go_simp; rfl)); (case hp => exact (Reps.c2 (show Kd.M k52 _ _ _ (⟨((rd_T52 l0 x10_1).f0), ((rd_T52 l0 x10_1).f1)⟩ : S52) [.int .i64 ((rd_T52 l0 x10_1).f0), .int .i64 ((rd_T52 l0 x10_1).f1)] from (k52_mkM _ _ _ (⟨((rd_T52 l0 x10_1).f0), ((rd_T52 l0 x10_1).f1)⟩ : S52) )) (Reps.none _ _)))
           intro v201 w29 ho30 hb hg_ hnew_
           clear hg_ hnew_
           (first | rw [← Ny200.out] at ho30 | (simp only [Int.reduceToNat] at ho30; rw [← Ny200.out] at ho30))
           have n0_ := Aside0.mk (Kd.R_elder' (ra_ HO_3.out) (Kd.R_base ho30) hb)
           have n1_ := Aside0.mk (Kd.R_elder' (ra_ HO199.out) (Kd.R_base ho30) hb)
           have n2_ := Aside0.mk (Kd.R_lower (Kd.R_newB (Kd.R_new' (Kd.R_new' ho30 (Kd.R_lt (ra_ HO_3.out))) (Kd.R_lt (ra_ HO199.out))) (g := gb187) (o := .cells #[.int .i64 ((rd_T52 l0 x10_1).f0), .int .i64 ((rd_T52 l0 x10_1).f1)] 52 (0, 0)) (bk_ BK187.out)) (below_size bls_))
           have n3_ := Aside0.mk (blk_below (g := gb187) (o := .cells #[.int .i64 ((rd_T52 l0 x10_1).f0), .int .i64 ((rd_T52 l0 x10_1).f1)] 52 (0, 0)) (bk_ BK187.out) hb)
           have n4_ := Aside0.mk (Kd.C_below (by repeat (first | (with_reducible exact HR196.out) | (with_reducible refine Kd.C_alloc ?_ _) | (with_reducible refine Kd.C_drewN ?_ _) | (with_reducible refine Kd.C_drew ?_) | exact HR196.out)) hb)
           have n5_ := Aside0.mk (below_step bls_ hb)
           clear HO_3
           clear HO199
           clear BK187
           clear HR196
           clear HB
           have HO_3 := n0_
           have HO199 := n1_
           have HO202 := n2_
           have BK187 := n3_
           have HR196 := n4_
           have HB := n5_
           clear n0_ n1_ n2_ n3_ n4_ n5_
           clear hb ho30
           refine hK.out _ _ ⟨(blk_cell BK187.out 0).trans rfl, (blk_cell BK187.out 1).trans rfl⟩ (fun hHeld => ?_)
           clear hK K
           refine nor_ 34 ?_
           exact norm_ (by simp only [putAll, Act.put, List.setIfInBounds_toArray, List.set_cons_zero, List.set_cons_succ]) (hCont (v191, v198, v201) _ ⟨hHeld, (by (with_reducible repeat (first | apply Kd.R_alloc | apply Kd.R_drewN | apply Kd.R_drew)); exact Kd.R_mono HO199.out (fun _ hk => ⟨hk.2, ⟨hk.1.1, hk.1.2⟩⟩)), (by (with_reducible repeat (first | apply Kd.R_alloc | apply Kd.R_drewN | apply Kd.R_drew)); exact Kd.R_mono HO202.out (fun _ hk => ⟨hk.1.2, ⟨hk.1.1.2, hk.2⟩⟩)), (by (with_reducible repeat (first | apply Kd.R_alloc | apply Kd.R_drewN | apply Kd.R_drew)); exact Kd.R_mono HO_3.out (fun _ hk => ⟨hk.1.2, ⟨hk.2, hk.1.1⟩⟩)), (bk_ BK187.out), bls_⟩)
          ·skip
           refine Kd.R_lit_step k52 _ 52 ?hg (N := 34) ?hd (xs := ([(⟨((rd_T52 l0 x10_1).f0), ((rd_T52 l0 x10_1).f1)⟩ : S52)] : List (S52))) (inner := [.int .i64 ((rd_T52 l0 x10_1).f0), .int .i64 ((rd_T52 l0 x10_1).f1)]) (ok := fun _ => True) (okp := fun _ => True) ?hr ?hp (fun _ hk => hk) trivial (Below.refl _ _) (Nat.le_refl _) (by simp) ?_; (case hd => rfl); (case hg => rfl); (case hr => first | (go_simp; done) | (go_simp; rfl)); (case hp => exact (Reps.c2 (show Kd.M k52 _ _ _ (⟨((rd_T52 l0 x10_1).f0), ((rd_T52 l0 x10_1).f1)⟩ : S52) [.int .i64 ((rd_T52 l0 x10_1).f0), .int .i64 ((rd_T52 l0 x10_1).f1)] from (k52_mkM _ _ _ (⟨((rd_T52 l0 x10_1).f0), ((rd_T52 l0 x10_1).f1)⟩ : S52) )) (Reps.none _ _)))
           intro v201 w28 ho29 hb hg_ hnew_
           clear hg_ hnew_
           (first | rw [← Ny200.out] at ho29 | (simp only [Int.reduceToNat] at ho29; rw [← Ny200.out] at ho29))
           have n0_ := Aside0.mk (Kd.R_elder' (ra_ HO_3.out) (Kd.R_base ho29) hb)
           have n1_ := Aside0.mk (Kd.R_elder' (ra_ HO192.out) (Kd.R_base ho29) hb)
           have n2_ := Aside0.mk (Kd.R_lower (Kd.R_newB (Kd.R_new' (Kd.R_new' ho29 (Kd.R_lt (ra_ HO_3.out))) (Kd.R_lt (ra_ HO192.out))) (g := gb187) (o := .cells #[.int .i64 ((rd_T52 l0 x10_1).f0), .int .i64 ((rd_T52 l0 x10_1).f1)] 52 (0, 0)) (bk_ BK187.out)) (below_size bls_))
           have n3_ := Aside0.mk (blk_below (g := gb187) (o := .cells #[.int .i64 ((rd_T52 l0 x10_1).f0), .int .i64 ((rd_T52 l0 x10_1).f1)] 52 (0, 0)) (bk_ BK187.out) hb)
           have n4_ := Aside0.mk (Kd.C_below (by repeat (first | (with_reducible exact HR196.out) | (with_reducible refine Kd.C_alloc ?_ _) | (with_reducible refine Kd.C_drewN ?_ _) | (with_reducible refine Kd.C_drew ?_) | exact HR196.out)) hb)
           have n5_ := Aside0.mk (below_step bls_ hb)
           clear HO_3
           clear HO192
           clear BK187
           clear HR196
           clear HB
           have HO_3 := n0_
           have HO192 := n1_
           have HO202 := n2_
           have BK187 := n3_
           have HR196 := n4_
           have HB := n5_
           clear n0_ n1_ n2_ n3_ n4_ n5_
           clear hb ho29
           refine hK.out _ _ ⟨(blk_cell BK187.out 0).trans rfl, (blk_cell BK187.out 1).trans rfl⟩ (fun hHeld => ?_)
           clear hK K
           refine nor_ 34 ?_
           refine one_ (i := 4) (N := some 32) #[true, true, true, true, true, true, true, false, false] rfl rfl (one_of HT_.out (by kernel_rfl)) (by decide) (fun K hK => ?_)
           refine Kd.R_append_rows_step k52 (w0 := w) w.heap.size (by rfl) (.tmp 28) (.tmp 31) 41 52 (.agg #[(.int .i64 0), (.int .i64 0)]) 16 rfl Try.underlying41 info52 rfl (by decide) (by omega) v191 y190 y193 _ _ _ (fun k_ => some k_ ≠ (.slice (some ad188) x3_1.length co22 : Value).ownBlock ∧ some k_ ≠ (v201 : Value).ownBlock ∧ k_ ≠ gb187) (fun _ => False) rfl rfl ?aO ?aR (fun _ _ h => h) (fun _ h => h.elim) ?aF ?aB ?aS ?aL ?_
           (case aR => repeat (first | exact (by repeat (first | (with_reducible exact HR196.out) | (with_reducible refine Kd.C_alloc ?_ _) | (with_reducible refine Kd.C_drewN ?_ _) | (with_reducible refine Kd.C_drew ?_) | exact HR196.out)) | (with_reducible refine Kd.C_alloc ?_ _) | (with_reducible refine Kd.C_drewN ?_ _) | (with_reducible refine Kd.C_drew ?_)))
           (case aB => exact bls_)
           (case aF => exact (fun k_ hk => ⟨Kd.fresh' (Kd.R_lt (ra_ HO_3.out)) k_ hk, Kd.fresh' (Kd.R_lt (ra_ HO202.out)) k_ hk, Kd.freshB (g := gb187) (o := .cells #[.int .i64 ((rd_T52 l0 x10_1).f0), .int .i64 ((rd_T52 l0 x10_1).f1)] 52 (0, 0)) (bk_ BK187.out) k_ hk⟩))
           (case aO => exact (by (with_reducible repeat (first | apply Kd.R_alloc | apply Kd.R_drewN | apply Kd.R_drew)); exact Kd.R_mono HO192.out (fun _ hk => ⟨hk.1.1.2, ⟨hk.2, hk.1.2⟩⟩)))
           (case aS => exact (below_size bls_))
           (case aL => have := LMc16.out; omega)
           intro v198 w30 ho hb hg hat
           rw [← Ny197.out] at ho
           have n0_ := Aside0.mk (Kd.R_after (ok := (fun k_ => some k_ ≠ (v201 : Value).ownBlock ∧ k_ ≠ gb187)) (by (with_reducible repeat (first | apply Kd.R_alloc | apply Kd.R_drewN | apply Kd.R_drew)); exact Kd.R_mono HO_3.out (fun _ hk => ⟨⟨hk.2, hk.1.1⟩, hk.1.2⟩)) hg hat)
           have n1_ := Aside0.mk (blk_grown (g := gb187) (o := .cells #[.int .i64 ((rd_T52 l0 x10_1).f0), .int .i64 ((rd_T52 l0 x10_1).f1)] 52 (0, 0)) (bk_ BK187.out) hg (Kd.R_away HO192.out (fun _ hk => hk.1.2)))
           have n2_ := Aside0.mk (Kd.R_after (ok := (fun k_ => some k_ ≠ (.slice (some ad188) x3_1.length co22 : Value).ownBlock ∧ k_ ≠ gb187)) (by (with_reducible repeat (first | apply Kd.R_alloc | apply Kd.R_drewN | apply Kd.R_drew)); exact Kd.R_mono HO202.out (fun _ hk => ⟨⟨hk.1.1.2, hk.2⟩, hk.1.2⟩)) hg hat)
           have n3_ := Aside0.mk (hb)
           have n4_ := Aside0.mk ((show Kd.C k52 w30 (some ad188) y193.length y193 from by rw [Ny193.out]; exact Kd.C_take (m := (x6_2 : Int).toNat) ((Kd.R_reads' (Kd.R_after (ok := (fun k_ => some k_ ≠ (v201 : Value).ownBlock ∧ k_ ≠ gb187)) (by (with_reducible repeat (first | apply Kd.R_alloc | apply Kd.R_drewN | apply Kd.R_drew)); exact Kd.R_mono HO_3.out (fun _ hk => ⟨⟨hk.2, hk.1.1⟩, hk.1.2⟩)) hg hat)).2.2) KL25.out))
           have n5_ := Aside0.mk (ho)
           clear HO_3
           clear BK187
           clear HO202
           clear HB
           clear HR196
           clear HO192
           have HO_3 := n0_
           have BK187 := n1_
           have HO202 := n2_
           have HB := n3_
           have HR196 := n4_
           have HO199 := n5_
           clear n0_ n1_ n2_ n3_ n4_ n5_
           clear ho hb hg hat
           refine hK.out _ _ ⟨(blk_cell BK187.out 0).trans rfl, (blk_cell BK187.out 1).trans rfl⟩ (fun hHeld => ?_)
           clear hK K
           refine nor_ 32 ?_
           exact norm_ (by simp only [putAll, Act.put, List.setIfInBounds_toArray, List.set_cons_zero, List.set_cons_succ]) (hCont (v191, v198, v201) _ ⟨hHeld, (by (with_reducible repeat (first | apply Kd.R_alloc | apply Kd.R_drewN | apply Kd.R_drew)); exact Kd.R_mono HO199.out (fun _ hk => ⟨hk.2.1, ⟨hk.1, hk.2.2⟩⟩)), (by (with_reducible repeat (first | apply Kd.R_alloc | apply Kd.R_drewN | apply Kd.R_drew)); exact Kd.R_mono HO202.out (fun _ hk => ⟨hk.2, ⟨hk.1.1, hk.1.2⟩⟩)), (by (with_reducible repeat (first | apply Kd.R_alloc | apply Kd.R_drewN | apply Kd.R_drew)); exact Kd.R_mono HO_3.out (fun _ hk => ⟨hk.2, ⟨hk.1.1, hk.1.2⟩⟩)), (bk_ BK187.out), bls_⟩)
         ·skip
          refine Kd.R_lit_step k52 _ 52 ?hg (N := 34) ?hd (xs := ([(⟨((rd_T52 l0 x10_1).f0), ((rd_T52 l0 x10_1).f1)⟩ : S52)] : List (S52))) (inner := [.int .i64 ((rd_T52 l0 x10_1).f0), .int .i64 ((rd_T52 l0 x10_1).f1)]) (ok := fun _ => True) (okp := fun _ => True) ?hr ?hp (fun _ hk => hk) trivial (Below.refl _ _) (Nat.le_refl _) (by simp) ?_; (case hd => rfl); (case hg => rfl); (case hr => first | (go_simp; done) | (go_simp; rfl)); (case hp => exact (Reps.c2 (show Kd.M k52 _ _ _ (⟨((rd_T52 l0 x10_1).f0), ((rd_T52 l0 x10_1).f1)⟩ : S52) [.int .i64 ((rd_T52 l0 x10_1).f0), .int .i64 ((rd_T52 l0 x10_1).f1)] from (k52_mkM _ _ _ (⟨((rd_T52 l0 x10_1).f0), ((rd_T52 l0 x10_1).f1)⟩ : S52) )) (Reps.none _ _)))
          intro v201 w26 ho27 hb hg_ hnew_
          clear hg_ hnew_
          (first | rw [← Ny200.out] at ho27 | (simp only [Int.reduceToNat] at ho27; rw [← Ny200.out] at ho27))
          have n0_ := Aside0.mk (Kd.R_elder' (ra_ HO_3.out) (Kd.R_base ho27) hb)
          have n1_ := Aside0.mk (Kd.R_lower (Kd.R_newB (Kd.R_new' ho27 (Kd.R_lt (ra_ HO_3.out))) (g := gb187) (o := .cells #[.int .i64 ((rd_T52 l0 x10_1).f0), .int .i64 ((rd_T52 l0 x10_1).f1)] 52 (0, 0)) (bk_ BK187.out)) (below_size bls_))
          have n2_ := Aside0.mk (blk_below (g := gb187) (o := .cells #[.int .i64 ((rd_T52 l0 x10_1).f0), .int .i64 ((rd_T52 l0 x10_1).f1)] 52 (0, 0)) (bk_ BK187.out) hb)
          have n3_ := Aside0.mk (Kd.C_below (by repeat (first | (with_reducible exact HR196.out) | (with_reducible refine Kd.C_alloc ?_ _) | (with_reducible refine Kd.C_drewN ?_ _) | (with_reducible refine Kd.C_drew ?_) | exact HR196.out)) hb)
          have n4_ := Aside0.mk (below_step bls_ hb)
          clear HO_3
          clear BK187
          clear HR196
          clear HB
          have HO_3 := n0_
          have HO202 := n1_
          have BK187 := n2_
          have HR196 := n3_
          have HB := n4_
          clear n0_ n1_ n2_ n3_ n4_
          clear hb ho27
          refine hK.out _ _ ⟨(blk_cell BK187.out 0).trans rfl, (blk_cell BK187.out 1).trans rfl⟩ (fun hHeld => ?_)
          clear hK K
          refine nor_ 34 ?_
          refine one_ (i := 0) (N := some 28) #[true, true, true, true, false, true, true, false, false] rfl rfl (one_of HT_.out (by kernel_rfl)) (by decide) (fun K hK => ?_)
          refine Kd.R_lit_step k52 _ 52 ?hg (N := 28) ?hd (xs := ([] : List (S52))) (inner := []) (ok := fun _ => True) (okp := fun _ => True) ?hr ?hp (fun _ hk => hk) trivial (Below.refl _ _) (Nat.le_refl _) (by simp) ?_; (case hd => rfl); (case hg => rfl); (case hr => first | (go_simp; done) | (go_simp; rfl)); (case hp => exact (Reps.none _ _))
          intro v191 w28 ho29 hb hg_ hnew_
          clear hg_ hnew_
          (first | rw [← Ny190.out] at ho29 | (simp only [Int.reduceToNat] at ho29; rw [← Ny190.out] at ho29))
          have n0_ := Aside0.mk (Kd.R_elder' (ra_ HO_3.out) (Kd.R_base ho29) hb)
          have n1_ := Aside0.mk (Kd.R_elder' (ra_ HO202.out) (Kd.R_base ho29) hb)
          have n2_ := Aside0.mk (Kd.R_lower (Kd.R_newB (Kd.R_new' (Kd.R_new' ho29 (Kd.R_lt (ra_ HO_3.out))) (Kd.R_lt (ra_ HO202.out))) (g := gb187) (o := .cells #[.int .i64 ((rd_T52 l0 x10_1).f0), .int .i64 ((rd_T52 l0 x10_1).f1)] 52 (0, 0)) (bk_ BK187.out)) (below_size bls_))
          have n3_ := Aside0.mk (blk_below (g := gb187) (o := .cells #[.int .i64 ((rd_T52 l0 x10_1).f0), .int .i64 ((rd_T52 l0 x10_1).f1)] 52 (0, 0)) (bk_ BK187.out) hb)
          have n4_ := Aside0.mk (Kd.C_below (by repeat (first | (with_reducible exact HR196.out) | (with_reducible refine Kd.C_alloc ?_ _) | (with_reducible refine Kd.C_drewN ?_ _) | (with_reducible refine Kd.C_drew ?_) | exact HR196.out)) hb)
          have n5_ := Aside0.mk (below_step bls_ hb)
          clear HO_3
          clear HO202
          clear BK187
          clear HR196
          clear HB
          have HO_3 := n0_
          have HO202 := n1_
          have HO192 := n2_
          have BK187 := n3_
          have HR196 := n4_
          have HB := n5_
          clear n0_ n1_ n2_ n3_ n4_ n5_
          clear hb ho29
          refine hK.out _ _ ⟨(blk_cell BK187.out 0).trans rfl, (blk_cell BK187.out 1).trans rfl⟩ (fun hHeld => ?_)
          clear hK K
          refine nor_ 28 ?_
          refine one_ (i := 4) (N := some 32) #[true, true, true, true, true, true, true, false, false] rfl rfl (one_of HT_.out (by kernel_rfl)) (by decide) (fun K hK => ?_)
          refine Kd.R_append_rows_step k52 (w0 := w) w.heap.size (by rfl) (.tmp 28) (.tmp 31) 41 52 (.agg #[(.int .i64 0), (.int .i64 0)]) 16 rfl Try.underlying41 info52 rfl (by decide) (by omega) v191 y190 y193 _ _ _ (fun k_ => some k_ ≠ (.slice (some ad188) x3_1.length co22 : Value).ownBlock ∧ some k_ ≠ (v201 : Value).ownBlock ∧ k_ ≠ gb187) (fun _ => False) rfl rfl ?aO ?aR (fun _ _ h => h) (fun _ h => h.elim) ?aF ?aB ?aS ?aL ?_
          (case aR => repeat (first | exact (by repeat (first | (with_reducible exact HR196.out) | (with_reducible refine Kd.C_alloc ?_ _) | (with_reducible refine Kd.C_drewN ?_ _) | (with_reducible refine Kd.C_drew ?_) | exact HR196.out)) | (with_reducible refine Kd.C_alloc ?_ _) | (with_reducible refine Kd.C_drewN ?_ _) | (with_reducible refine Kd.C_drew ?_)))
          (case aB => exact bls_)
          (case aF => exact (fun k_ hk => ⟨Kd.fresh' (Kd.R_lt (ra_ HO_3.out)) k_ hk, Kd.fresh' (Kd.R_lt (ra_ HO202.out)) k_ hk, Kd.freshB (g := gb187) (o := .cells #[.int .i64 ((rd_T52 l0 x10_1).f0), .int .i64 ((rd_T52 l0 x10_1).f1)] 52 (0, 0)) (bk_ BK187.out) k_ hk⟩))
          (case aO => exact (by (with_reducible repeat (first | apply Kd.R_alloc | apply Kd.R_drewN | apply Kd.R_drew)); exact Kd.R_mono HO192.out (fun _ hk => ⟨hk.1.1.2, ⟨hk.1.2, hk.2⟩⟩)))
          (case aS => exact (below_size bls_))
          (case aL => have := LMc16.out; omega)
          intro v198 w30 ho hb hg hat
          rw [← Ny197.out] at ho
          have n0_ := Aside0.mk (Kd.R_after (ok := (fun k_ => some k_ ≠ (v201 : Value).ownBlock ∧ k_ ≠ gb187)) (by (with_reducible repeat (first | apply Kd.R_alloc | apply Kd.R_drewN | apply Kd.R_drew)); exact Kd.R_mono HO_3.out (fun _ hk => ⟨⟨hk.1.2, hk.1.1⟩, hk.2⟩)) hg hat)
          have n1_ := Aside0.mk (blk_grown (g := gb187) (o := .cells #[.int .i64 ((rd_T52 l0 x10_1).f0), .int .i64 ((rd_T52 l0 x10_1).f1)] 52 (0, 0)) (bk_ BK187.out) hg (Kd.R_away HO192.out (fun _ hk => hk.2)))
          have n2_ := Aside0.mk (Kd.R_after (ok := (fun k_ => some k_ ≠ (.slice (some ad188) x3_1.length co22 : Value).ownBlock ∧ k_ ≠ gb187)) (by (with_reducible repeat (first | apply Kd.R_alloc | apply Kd.R_drewN | apply Kd.R_drew)); exact Kd.R_mono HO202.out (fun _ hk => ⟨⟨hk.1.1.2, hk.1.2⟩, hk.2⟩)) hg hat)
          have n3_ := Aside0.mk (hb)
          have n4_ := Aside0.mk ((show Kd.C k52 w30 (some ad188) y193.length y193 from by rw [Ny193.out]; exact Kd.C_take (m := (x6_2 : Int).toNat) ((Kd.R_reads' (Kd.R_after (ok := (fun k_ => some k_ ≠ (v201 : Value).ownBlock ∧ k_ ≠ gb187)) (by (with_reducible repeat (first | apply Kd.R_alloc | apply Kd.R_drewN | apply Kd.R_drew)); exact Kd.R_mono HO_3.out (fun _ hk => ⟨⟨hk.1.2, hk.1.1⟩, hk.2⟩)) hg hat)).2.2) KL25.out))
          have n5_ := Aside0.mk (ho)
          clear HO_3
          clear BK187
          clear HO202
          clear HB
          clear HR196
          clear HO192
          have HO_3 := n0_
          have BK187 := n1_
          have HO202 := n2_
          have HB := n3_
          have HR196 := n4_
          have HO199 := n5_
          clear n0_ n1_ n2_ n3_ n4_ n5_
          clear ho hb hg hat
          refine hK.out _ _ ⟨(blk_cell BK187.out 0).trans rfl, (blk_cell BK187.out 1).trans rfl⟩ (fun hHeld => ?_)
          clear hK K
          refine nor_ 32 ?_
          exact norm_ (by simp only [putAll, Act.put, List.setIfInBounds_toArray, List.set_cons_zero, List.set_cons_succ]) (hCont (v191, v198, v201) _ ⟨hHeld, (by (with_reducible repeat (first | apply Kd.R_alloc | apply Kd.R_drewN | apply Kd.R_drew)); exact Kd.R_mono HO199.out (fun _ hk => ⟨hk.2.1, ⟨hk.1, hk.2.2⟩⟩)), (by (with_reducible repeat (first | apply Kd.R_alloc | apply Kd.R_drewN | apply Kd.R_drew)); exact Kd.R_mono HO202.out (fun _ hk => ⟨hk.2, ⟨hk.1.1, hk.1.2⟩⟩)), (by (with_reducible repeat (first | apply Kd.R_alloc | apply Kd.R_drewN | apply Kd.R_drew)); exact Kd.R_mono HO_3.out (fun _ hk => ⟨hk.2, ⟨hk.1.1, hk.1.2⟩⟩)), (bk_ BK187.out), bls_⟩)
        rintro ⟨v191, v198, v201⟩ w31 ⟨hS_, h0_, h1_, h2_, h3_, h4_⟩
        have n0_ : Aside0 (Kd.R k52 52 w31 w.heap.size (fun k_ => some k_ ≠ (v201 : Value).ownBlock ∧ some k_ ≠ (.slice (some ad188) x3_1.length co22 : Value).ownBlock ∧ k_ ≠ gb187) v198 y197) := ⟨h0_⟩
        have n1_ : Aside0 (Kd.R k52 52 w31 w.heap.size (fun k_ => some k_ ≠ (v198 : Value).ownBlock ∧ some k_ ≠ (.slice (some ad188) x3_1.length co22 : Value).ownBlock ∧ k_ ≠ gb187) v201 y200) := ⟨h1_⟩
        have n2_ : Aside0 (Kd.R k52 52 w31 w.heap.size (fun k_ => some k_ ≠ (v198 : Value).ownBlock ∧ some k_ ≠ (v201 : Value).ownBlock ∧ k_ ≠ gb187) (.slice (some ad188) x3_1.length co22) x3_1) := ⟨h2_⟩
        have n3_ : Aside0 (w31.heap[gb187]? = some (.cells #[.int .i64 ((rd_T52 l0 x10_1).f0), .int .i64 ((rd_T52 l0 x10_1).f1)] 52 (0, 0))) := ⟨h3_⟩
        have n4_ : Aside0 (Below w.heap.size w w31) := ⟨h4_⟩
        clear HO_3
        clear BK187
        clear HB
        clear h0_ h1_ h2_ h3_ h4_
        have HO199 := n0_
        have HO202 := n1_
        have HO_3 := n2_
        have BK187 := n3_
        have HB := n4_
        clear n0_ n1_ n2_ n3_ n4_
        have hHeld : w31.cell? ⟨gb187, 0, none⟩ = some (.int .i64 ((rd_T52 l0 x10_1).f0)) ∧ w31.cell? ⟨gb187, 1, none⟩ = some (.int .i64 ((rd_T52 l0 x10_1).f1)) := hS_
        obtain ⟨Ao33, co33, eo33⟩ := Kd.R_slice HO202.out
        (first | subst eo33 | (injection eo33 with f1_ f2_ f3_; have f4_ := f1_.symm; have f5_ := f3_.symm; clear f1_ f2_ f3_; subst f4_; subst f5_))
        refine norm_ (a' := ?_) ?_ ?_
        rotate_left
        ·simp only [putAll, Act.put, List.setIfInBounds_toArray, List.set_cons_zero, List.set_cons_succ]
         rfl
        refine one_ (i := 7) (N := some 35) #[true, true, true, true, true, true, true, true, false] rfl rfl (one_of HT_.out (by kernel_rfl)) (by decide) (fun K hK => ?_)
        refine Kd.R_append_rows_step k52 (w0 := w) w.heap.size (by rfl) (.tmp 32) (.tmp 34) 41 52 (.agg #[(.int .i64 0), (.int .i64 0)]) 16 rfl Try.underlying41 info52 rfl (by decide) (by omega) v198 y197 y200 _ _ _ (fun k_ => some k_ ≠ (.slice (some ad188) x3_1.length co22 : Value).ownBlock ∧ some k_ ≠ (.slice Ao33 y200.length co33 : Value).ownBlock ∧ k_ ≠ gb187) (fun _ => False) rfl rfl ?aO ?aR (fun _ _ h => h) (fun _ h => h.elim) ?aF ?aB ?aS ?aL ?_
        (case aR => repeat (first | exact (Kd.R_reads' HO202.out).2.2 | (with_reducible refine Kd.C_alloc ?_ _) | (with_reducible refine Kd.C_drewN ?_ _) | (with_reducible refine Kd.C_drew ?_)))
        (case aB => exact bls_)
        (case aF => exact (fun k_ hk => ⟨Kd.fresh' (Kd.R_lt (ra_ HO_3.out)) k_ hk, Kd.fresh' (Kd.R_lt (ra_ HO202.out)) k_ hk, Kd.freshB (g := gb187) (o := .cells #[.int .i64 ((rd_T52 l0 x10_1).f0), .int .i64 ((rd_T52 l0 x10_1).f1)] 52 (0, 0)) (bk_ BK187.out) k_ hk⟩))
        (case aO => exact (by (with_reducible repeat (first | apply Kd.R_alloc | apply Kd.R_drewN | apply Kd.R_drew)); exact Kd.R_mono HO199.out (fun _ hk => ⟨hk.2.1, ⟨hk.1, hk.2.2⟩⟩)))
        (case aS => exact (below_size bls_))
        (case aL => have := LMc17.out; omega)
        intro v204 w32 ho hb hg hat
        rw [← Ny203.out] at ho
        have n0_ := Aside0.mk (Kd.R_after (ok := (fun k_ => some k_ ≠ (.slice Ao33 y200.length co33 : Value).ownBlock ∧ k_ ≠ gb187)) (by (with_reducible repeat (first | apply Kd.R_alloc | apply Kd.R_drewN | apply Kd.R_drew)); exact Kd.R_mono HO_3.out (fun _ hk => ⟨⟨hk.2.1, hk.2.2⟩, hk.1⟩)) hg hat)
        have n1_ := Aside0.mk (blk_grown (g := gb187) (o := .cells #[.int .i64 ((rd_T52 l0 x10_1).f0), .int .i64 ((rd_T52 l0 x10_1).f1)] 52 (0, 0)) (bk_ BK187.out) hg (Kd.R_away HO199.out (fun _ hk => hk.2.2)))
        have n2_ := Aside0.mk (Kd.R_after (ok := (fun k_ => some k_ ≠ (.slice (some ad188) x3_1.length co22 : Value).ownBlock ∧ k_ ≠ gb187)) (by (with_reducible repeat (first | apply Kd.R_alloc | apply Kd.R_drewN | apply Kd.R_drew)); exact Kd.R_mono HO202.out (fun _ hk => ⟨⟨hk.2.1, hk.2.2⟩, hk.1⟩)) hg hat)
        have n3_ := Aside0.mk (hb)
        have n4_ := Aside0.mk (ho)
        clear HO_3
        clear BK187
        clear HO202
        clear HB
        clear HO199
        have HO_3 := n0_
        have BK187 := n1_
        have HO202 := n2_
        have HB := n3_
        have HO205 := n4_
        clear n0_ n1_ n2_ n3_ n4_
        clear ho hb hg hat
        refine hK.out _ _ ⟨(blk_cell BK187.out 0).trans rfl, (blk_cell BK187.out 1).trans rfl⟩ (fun hHeld => ?_)
        clear hK K
        refine nor_ 35 ?_
        refine pux_ 8 7 HT_ ?_
        refine done_ (done_of HT_.out (by kernel_rfl)) ?_
        have q34 : (x6_2 : Int) ≤ ((x3_1.length : Int) : Int) := odt_
        obtain ⟨i034, hi034, _, hsz34, _⟩ := info_parts info52
        have hroom34 : x3_1.length ≤ co22 := (Kd.R_reads' HO_3.out).2.1
        have hC34 : Kd.C k52 _ (some ad188) x3_1.length x3_1 := (Kd.R_reads' HO_3.out).2.2
        have q034 : (0 : Int) ≤ (x6_2 : Int) := odt_
        have hcut34 := cut_from (P := Try.prog) 41 52 .i64 Try.underlying41 hi034 2 hsz34 (some ad188) x3_1.length co22 x6_2 q034 q34
        have hr34 := Kd.C_drop (m := (x6_2 : Int).toNat) (c := co22) hC34 (by omega) hroom34
        obtain ⟨A34, hA34⟩ : ∃ A1, A1 = (if co22 = (x6_2 : Int).toNat then (some ad188) else ((some ad188) : Option Addr).map (·.add ((x6_2 : Int).toNat * 2))) := ⟨_, rfl⟩
        obtain ⟨c34, hc34⟩ : ∃ c1, c1 = co22 - (x6_2 : Int).toNat := ⟨_, rfl⟩
        have hy34 : y206.length = x3_1.length - (x6_2 : Int).toNat := (by rw [Ny206.out, List.length_drop] <;> omega)
        rw [show (x3_1).drop (x6_2 : Int).toNat = y206 from Ny206.out.symm] at hr34
        replace hr34 : Kd.C k52 _ A34 y206.length y206 := (by rw [hA34]; exact hr34)
        rw [← hy34, ← hA34, ← hc34] at hcut34
        have HR209 := Aside0.mk hr34
        have HC209 := Aside0.mk (show y206.length ≤ c34 from by rw [hy34, hc34]; exact Nat.sub_le_sub_right hroom34 _)
        clear hr34 hC34 hroom34 hi034 hsz34 hc34
        have KY34 := Aside0.mk hy34
        have KA34 := Aside0.mk hA34
        clear hy34 hA34
        have KL34 := Aside0.mk (show (x6_2 : Int).toNat ≤ x3_1.length from by omega)
        replace q34 := eq_true q34
        try go_wp2_with (first | ((with_reducible refine gate_builtin (b := .append) (xs := #[.tmp 36, .tmp 39]) rfl ?_); at_builtin; refine Kd.R_append_rows k52 (w0 := w) w.heap.size rfl (.tmp 36) (.tmp 39) 41 52 (.agg #[(.int .i64 0), (.int .i64 0)]) 16 rfl Try.underlying41 info52 rfl (by decide) (by omega) v204 y203 y206 _ _ _ (fun k_ => some k_ ≠ (.slice (some ad188) x3_1.length co22 : Value).ownBlock ∧ some k_ ≠ (.slice Ao33 y200.length co33 : Value).ownBlock ∧ k_ ≠ gb187) (fun _ => False) rfl rfl ?aO ?aR (fun _ _ h => h) (fun _ h => h.elim) ?aF ?aB ?aS ?aL ?_; (case aR => repeat (first | exact (by repeat (first | (with_reducible exact HR209.out) | (with_reducible refine Kd.C_alloc ?_ _) | (with_reducible refine Kd.C_drewN ?_ _) | (with_reducible refine Kd.C_drew ?_) | exact HR209.out)) | (with_reducible refine Kd.C_alloc ?_ _) | (with_reducible refine Kd.C_drewN ?_ _) | (with_reducible refine Kd.C_drew ?_))); (case aB => exact bls_); (case aF => exact (fun k_ hk => ⟨Kd.fresh' (Kd.R_lt (ra_ HO_3.out)) k_ hk, Kd.fresh' (Kd.R_lt (ra_ HO202.out)) k_ hk, Kd.freshB (g := gb187) (o := .cells #[.int .i64 ((rd_T52 l0 x10_1).f0), .int .i64 ((rd_T52 l0 x10_1).f1)] 52 (0, 0)) (bk_ BK187.out) k_ hk⟩)); (case aO => exact (ra_ HO205.out)); (case aS => exact (below_size bls_)); (case aL => have := LMc20.out; omega); intro v211 w35 ho hb hg hat; rw [← Ny210.out] at ho; have n0_ := Aside0.mk (Kd.R_after (ok := (fun k_ => some k_ ≠ (.slice Ao33 y200.length co33 : Value).ownBlock ∧ k_ ≠ gb187)) (ra_ HO_3.out) hg hat); have n1_ := Aside0.mk (blk_grown (g := gb187) (o := .cells #[.int .i64 ((rd_T52 l0 x10_1).f0), .int .i64 ((rd_T52 l0 x10_1).f1)] 52 (0, 0)) (bk_ BK187.out) hg (Kd.R_away HO205.out (fun _ hk => hk.2.2))); have n2_ := Aside0.mk (Kd.R_after (ok := (fun k_ => some k_ ≠ (.slice (some ad188) x3_1.length co22 : Value).ownBlock ∧ k_ ≠ gb187)) (ra_ HO202.out) hg hat); have n3_ := Aside0.mk (hb); have n4_ := Aside0.mk ((show Kd.C k52 w35 A34 y206.length y206 from by rw [Ny206.out, KA34.out]; exact Kd.C_drop (m := (x6_2 : Int).toNat) (c := co22) ((Kd.R_reads' (Kd.R_after (ok := (fun k_ => some k_ ≠ (.slice Ao33 y200.length co33 : Value).ownBlock ∧ k_ ≠ gb187)) (ra_ HO_3.out) hg hat)).2.2) KL34.out ((Kd.R_reads' (Kd.R_after (ok := (fun k_ => some k_ ≠ (.slice Ao33 y200.length co33 : Value).ownBlock ∧ k_ ≠ gb187)) (ra_ HO_3.out) hg hat)).2.1))); have n5_ := Aside0.mk (ho); clear HO_3; clear BK187; clear HO202; clear HB; clear HR209; clear HO205; have HO_3 := n0_; have BK187 := n1_; have HO202 := n2_; have HB := n3_; have HR209 := n4_; have HO212 := n5_; clear n0_ n1_ n2_ n3_ n4_ n5_; clear ho hb hg hat))
        go_roundg k2
        case measure => have := HK1.out; have := HK2.out; omega
        case rel => exact ⟨(y210), (wrap64 (x10_1 + 1)), rsd_, H', ⟨by have := HK1.out; have := HK2.out; omega⟩, ⟨by (with_reducible repeat (first | apply Kd.R_alloc | apply Kd.R_drewN | apply Kd.R_drew)); exact Kd.R_mono HO212.out (fun _ hk => trivial)⟩, ⟨bls_⟩⟩
      ·rw [if_neg c7] at H
       have c7b0 : decide (x6_2 < (x3_1.length : Int)) = false := decide_eq_false c7
       clear c7
       obtain ⟨y213, hy213⟩ : ∃ y_ : List (S52), y_ = (([] : List (S52))) := ⟨_, rfl⟩
       replace H : (if 0 ≤ x6_2 then (if x6_2 ≤ (x3_1.length : Int) then ((some (x3_1.take (x6_2 : Int).toNat : List (S52))).bind fun y216 => (if y213.length + y216.length < 8796093022208 then ((some (y213 ++ y216 : List (S52))).bind fun y220 => ((some (([(⟨((rd_T52 l0 x10_1).f0), ((rd_T52 l0 x10_1).f1)⟩ : S52)] : List (S52)) : List (S52))).bind fun y223 => (if y220.length + y223.length < 8796093022208 then ((some (y220 ++ y223 : List (S52))).bind fun y226 => ((some (x3_1.drop (x6_2 : Int).toNat : List (S52))).bind fun y229 => (if y226.length + y229.length < 8796093022208 then (spec_poSorted.l0 k2 (y226 ++ y229) l0 (l0.length : Int) (wrap64 (x10_1 + 1))) else (none)))) else (none)))) else (none))) else (none)) else (none)) = some r := by first | (rw [hy213]; with_reducible exact H) | (have H2_ := (Option.bind_some _ _).symm.trans H; rw [hy213]; with_reducible exact H2_) | (have H2_ := (Option.bind_some _ _).symm.trans H; with_reducible exact H2_) | with_reducible exact H | (rw [hy213]; exact H) | exact H
       have Ny213 := Aside0.mk hy213
       clear hy213
       by_cases c36 : 0 ≤ x6_2
       case neg=>rw [if_neg c36] at H;exact absurd H (by simp)
       rw [if_pos c36] at H
       have c36b0 := eq_true c36
       have c36b1 : decide (0 ≤ x6_2) = true := decide_eq_true c36
       clear c36
       by_cases c37 : x6_2 ≤ (x3_1.length : Int)
       case neg=>rw [if_neg c37] at H;exact absurd H (by simp)
       rw [if_pos c37] at H
       have c37b0 := eq_true c37
       have c37b1 : decide (x6_2 ≤ (x3_1.length : Int)) = true := decide_eq_true c37
       clear c37
       obtain ⟨y216, hy216⟩ : ∃ y_ : List (S52), y_ = (x3_1.take (x6_2 : Int).toNat) := ⟨_, rfl⟩
       replace H : (if y213.length + y216.length < 8796093022208 then ((some (y213 ++ y216 : List (S52))).bind fun y220 => ((some (([(⟨((rd_T52 l0 x10_1).f0), ((rd_T52 l0 x10_1).f1)⟩ : S52)] : List (S52)) : List (S52))).bind fun y223 => (if y220.length + y223.length < 8796093022208 then ((some (y220 ++ y223 : List (S52))).bind fun y226 => ((some (x3_1.drop (x6_2 : Int).toNat : List (S52))).bind fun y229 => (if y226.length + y229.length < 8796093022208 then (spec_poSorted.l0 k2 (y226 ++ y229) l0 (l0.length : Int) (wrap64 (x10_1 + 1))) else (none)))) else (none)))) else (none)) = some r := by first | (rw [hy216]; with_reducible exact H) | (have H2_ := (Option.bind_some _ _).symm.trans H; rw [hy216]; with_reducible exact H2_) | (have H2_ := (Option.bind_some _ _).symm.trans H; with_reducible exact H2_) | with_reducible exact H | (rw [hy216]; exact H) | exact H
       have Ny216 := Aside0.mk hy216
       clear hy216
       by_cases c38 : y213.length + y216.length < 8796093022208
       case neg=>rw [if_neg c38] at H;exact absurd H (by simp)
       rw [if_pos c38] at H
       have LMc38 := Aside0.mk c38
       clear c38
       obtain ⟨y220, hy220⟩ : ∃ y_ : List (S52), y_ = (y213 ++ y216) := ⟨_, rfl⟩
       replace H : ((some (([(⟨((rd_T52 l0 x10_1).f0), ((rd_T52 l0 x10_1).f1)⟩ : S52)] : List (S52)) : List (S52))).bind fun y223 => (if y220.length + y223.length < 8796093022208 then ((some (y220 ++ y223 : List (S52))).bind fun y226 => ((some (x3_1.drop (x6_2 : Int).toNat : List (S52))).bind fun y229 => (if y226.length + y229.length < 8796093022208 then (spec_poSorted.l0 k2 (y226 ++ y229) l0 (l0.length : Int) (wrap64 (x10_1 + 1))) else (none)))) else (none))) = some r := by first | (rw [hy220]; with_reducible exact H) | (have H2_ := (Option.bind_some _ _).symm.trans H; rw [hy220]; with_reducible exact H2_) | (have H2_ := (Option.bind_some _ _).symm.trans H; with_reducible exact H2_) | with_reducible exact H | (rw [hy220]; exact H) | exact H
       have Ny220 := Aside0.mk hy220
       clear hy220
       obtain ⟨y223, hy223⟩ : ∃ y_ : List (S52), y_ = (([(⟨((rd_T52 l0 x10_1).f0), ((rd_T52 l0 x10_1).f1)⟩ : S52)] : List (S52))) := ⟨_, rfl⟩
       replace H : (if y220.length + y223.length < 8796093022208 then ((some (y220 ++ y223 : List (S52))).bind fun y226 => ((some (x3_1.drop (x6_2 : Int).toNat : List (S52))).bind fun y229 => (if y226.length + y229.length < 8796093022208 then (spec_poSorted.l0 k2 (y226 ++ y229) l0 (l0.length : Int) (wrap64 (x10_1 + 1))) else (none)))) else (none)) = some r := by first | (rw [hy223]; with_reducible exact H) | (have H2_ := (Option.bind_some _ _).symm.trans H; rw [hy223]; with_reducible exact H2_) | (have H2_ := (Option.bind_some _ _).symm.trans H; with_reducible exact H2_) | with_reducible exact H | (rw [hy223]; exact H) | exact H
       have Ny223 := Aside0.mk hy223
       clear hy223
       by_cases c39 : y220.length + y223.length < 8796093022208
       case neg=>rw [if_neg c39] at H;exact absurd H (by simp)
       rw [if_pos c39] at H
       have LMc39 := Aside0.mk c39
       clear c39
       obtain ⟨y226, hy226⟩ : ∃ y_ : List (S52), y_ = (y220 ++ y223) := ⟨_, rfl⟩
       replace H : ((some (x3_1.drop (x6_2 : Int).toNat : List (S52))).bind fun y229 => (if y226.length + y229.length < 8796093022208 then (spec_poSorted.l0 k2 (y226 ++ y229) l0 (l0.length : Int) (wrap64 (x10_1 + 1))) else (none))) = some r := by first | (rw [hy226]; with_reducible exact H) | (have H2_ := (Option.bind_some _ _).symm.trans H; rw [hy226]; with_reducible exact H2_) | (have H2_ := (Option.bind_some _ _).symm.trans H; with_reducible exact H2_) | with_reducible exact H | (rw [hy226]; exact H) | exact H
       have Ny226 := Aside0.mk hy226
       clear hy226
       have c40b0 := eq_true (odt_ : 0 ≤ x6_2)
       have c41b0 := eq_true (odt_ : x6_2 ≤ (x3_1.length : Int))
       obtain ⟨y229, hy229⟩ : ∃ y_ : List (S52), y_ = (x3_1.drop (x6_2 : Int).toNat) := ⟨_, rfl⟩
       replace H : (if y226.length + y229.length < 8796093022208 then (spec_poSorted.l0 k2 (y226 ++ y229) l0 (l0.length : Int) (wrap64 (x10_1 + 1))) else (none)) = some r := by first | (rw [hy229]; with_reducible exact H) | (have H2_ := (Option.bind_some _ _).symm.trans H; rw [hy229]; with_reducible exact H2_) | (have H2_ := (Option.bind_some _ _).symm.trans H; with_reducible exact H2_) | with_reducible exact H | (rw [hy229]; exact H) | exact H
       have Ny229 := Aside0.mk hy229
       clear hy229
       by_cases c42 : y226.length + y229.length < 8796093022208
       case neg=>rw [if_neg c42] at H;exact absurd H (by simp)
       rw [if_pos c42] at H
       have LMc42 := Aside0.mk c42
       clear c42
       obtain ⟨y233, hy233⟩ : ∃ y_ : List (S52), y_ = (y226 ++ y229) := ⟨_, rfl⟩
       replace H : (spec_poSorted.l0 k2 y233 l0 (l0.length : Int) (wrap64 (x10_1 + 1))) = some r := by first | (rw [hy233]; with_reducible exact H) | (have H2_ := (Option.bind_some _ _).symm.trans H; rw [hy233]; with_reducible exact H2_) | (have H2_ := (Option.bind_some _ _).symm.trans H; with_reducible exact H2_) | with_reducible exact H | (rw [hy233]; exact H) | exact H
       have Ny233 := Aside0.mk hy233
       clear hy233
       have H' := Aside0.mk H
       clear H
       try go_wp2
       have n0_ := Aside0.mk (Kd.R_drew HO_3.out)
       have n1_ := Aside0.mk (blk_drew BK187.out)
       have n2_ := Aside0.mk (below_drew1 HB.out)
       clear HO_3
       clear BK187
       clear HB
       have HO_3 := n0_
       have BK187 := n1_
       have HB := n2_
       clear n0_ n1_ n2_
       obtain ⟨Ao44, co44, eo44⟩ := Kd.R_slice HO_3.out
       (first | subst eo44 | (injection eo44 with f1_ f2_ f3_; have f4_ := f1_.symm; have f5_ := f3_.symm; clear f1_ f2_ f3_; subst f4_; subst f5_))
       refine start_ (n := 12) (S := fun w' => True) (ds := []) #[false, false, false, false, false, false, false, false, false, false, false, false] (by kernel_rfl) rfl rfl trivial (fun hHeld => ?_); refine with_tabW spec_poSorted.tab6 spec_poSorted.bits6 (fun HT_ HW_ => ?_)
       generalize wr.drew = w43 at HO_3 BK187 HB hHeld ⊢
       refine pux_ 0 14 HT_ ?_
       refine pux_ 1 15 HT_ ?_
       refine pux_ 2 16 HT_ ?_
       refine pux_ 3 17 HT_ ?_
       refine pux_ 4 18 HT_ ?_
       refine puy_ 5 19 HT_ ?_
       refine puy_ 6 20 HT_ ?_
       refine puy_ 7 21 HT_ ?_
       refine puy_ 8 22 HT_ ?_
       refine puy_ 9 23 HT_ ?_
       refine puy_ 10 24 HT_ ?_
       refine pux_ 11 25 HT_ ?_
       refine done_ (done_of HT_.out (by kernel_rfl)) ?_
       try go_wp2
       have n0_ := Aside0.mk (Kd.R_drew HO_3.out)
       have n1_ := Aside0.mk (blk_drew BK187.out)
       have n2_ := Aside0.mk (below_drew1 HB.out)
       clear HO_3
       clear BK187
       clear HB
       have HO_3 := n0_
       have BK187 := n1_
       have HB := n2_
       clear n0_ n1_ n2_
       have q46 : (x6_2 : Int) ≤ ((x3_1.length : Int) : Int) := odt_
       obtain ⟨i046, hi046, _, hsz46, _⟩ := info_parts info52
       have hroom46 : x3_1.length ≤ co44 := (Kd.R_reads' HO_3.out).2.1
       have hC46 : Kd.C k52 _ Ao44 x3_1.length x3_1 := (Kd.R_reads' HO_3.out).2.2
       have hcut46 := cut_to (P := Try.prog) 41 52 .i64 Try.underlying41 hi046 Ao44 x3_1.length co44 x6_2 (odt_) q46 hroom46
       have hr46 := Kd.C_take (m := (x6_2 : Int).toNat) hC46 (by omega)
       have hy46 : y216.length = (x6_2 : Int).toNat := (by rw [Ny216.out, List.length_take]; omega)
       rw [← Ny216.out] at hr46
       rw [← hy46] at hcut46
       have HR219 := Aside0.mk hr46
       have HC219 := Aside0.mk (show y216.length ≤ co44 from by omega)
       clear hr46 hC46 hroom46 hi046 hsz46
       have KY46 := Aside0.mk hy46
       clear hy46
       have KL46 := Aside0.mk (show (x6_2 : Int).toNat ≤ x3_1.length from by omega)
       replace q46 := eq_true q46
       refine start_ (n := 9) (S := fun w' => w'.cell? ⟨gb187, 0, none⟩ = some (.int .i64 ((rd_T52 l0 x10_1).f0)) ∧ w'.cell? ⟨gb187, 1, none⟩ = some (.int .i64 ((rd_T52 l0 x10_1).f1))) (ds := []) #[false, false, false, false, false, false, false, false, false] (by kernel_rfl) rfl rfl ⟨(blk_cell BK187.out 0).trans rfl, (blk_cell BK187.out 1).trans rfl⟩ (fun hHeld => ?_); refine with_tabW spec_poSorted.tab8 spec_poSorted.bits8 (fun HT_ HW_ => ?_)
       generalize w43.drew = w45 at HO_3 BK187 HB HR219 hHeld ⊢
       refine pux_ 1 29 HT_ ?_
       refine pux_ 2 30 HT_ ?_
       refine pux_ 3 31 HT_ ?_
       refine take_ (i := 5) (N := some 33) (v := ?_) (a' := ?_) #[false, true, true, true, false, true, false, false, false] rfl rfl (take_ofW HT_.out HW_.out (by kernel_rfl)) (fun _ _ _ h => h) (Or.inl ⟨by rfl, ?_⟩) hHeld ?_ ?_
       rotate_left
       ·rintro w' ⟨s0, s1⟩
        go_simp
        with_reducible rfl
       rotate_left
       ·exact ap_
       refine join_ (σ := Value × Value × Value) 2 #[true, true, true, true, true, true, true, false, false] (fun s_ => [(28, s_.1), (32, s_.2.1), (34, s_.2.2)]) (fun s_ w' => (w'.cell? ⟨gb187, 0, none⟩ = some (.int .i64 ((rd_T52 l0 x10_1).f0)) ∧ w'.cell? ⟨gb187, 1, none⟩ = some (.int .i64 ((rd_T52 l0 x10_1).f1))) ∧ (Kd.R k52 52 w' w.heap.size (fun k_ => some k_ ≠ (s_.2.2 : Value).ownBlock ∧ some k_ ≠ (.slice Ao44 x3_1.length co44 : Value).ownBlock ∧ k_ ≠ gb187) s_.2.1 y220) ∧ (Kd.R k52 52 w' w.heap.size (fun k_ => some k_ ≠ (s_.2.1 : Value).ownBlock ∧ some k_ ≠ (.slice Ao44 x3_1.length co44 : Value).ownBlock ∧ k_ ≠ gb187) s_.2.2 y223) ∧ (Kd.R k52 52 w' w.heap.size (fun k_ => some k_ ≠ (s_.2.1 : Value).ownBlock ∧ some k_ ≠ (s_.2.2 : Value).ownBlock ∧ k_ ≠ gb187) (.slice Ao44 x3_1.length co44) x3_1) ∧ (w'.heap[gb187]? = some (.cells #[.int .i64 ((rd_T52 l0 x10_1).f0), .int .i64 ((rd_T52 l0 x10_1).f1)] 52 (0, 0))) ∧ (Below w.heap.size w w')) ?_ ?_
       rotate_left
       ·intro hCont
        refine two_ (i := 0) (j := 6) (Ni := some 28) (Nj := some 34) #[true, true, true, true, false, true, false, false, false] #[false, true, true, true, false, true, true, false, false] rfl rfl rfl rfl (two_of HT_.out (by kernel_rfl)) (by decide) (by decide) (fun K hK => ?_) (fun K hK => ?_)
        ·skip
         refine Kd.R_lit_step k52 _ 52 ?hg (N := 28) ?hd (xs := ([] : List (S52))) (inner := []) (ok := fun _ => True) (okp := fun _ => True) ?hr ?hp (fun _ hk => hk) trivial (Below.refl _ _) (Nat.le_refl _) (by simp) ?_; (case hd => rfl); (case hg => rfl); (case hr => first | (go_simp; done) | (go_simp; rfl)); (case hp => exact (Reps.none _ _))
         intro v214 w47 ho48 hb hg_ hnew_
         clear hg_ hnew_
         (first | rw [← Ny213.out] at ho48 | (simp only [Int.reduceToNat] at ho48; rw [← Ny213.out] at ho48))
         have n0_ := Aside0.mk (Kd.R_elder' (ra_ HO_3.out) (Kd.R_base ho48) hb)
         have n1_ := Aside0.mk (Kd.R_lower (Kd.R_newB (Kd.R_new' ho48 (Kd.R_lt (ra_ HO_3.out))) (g := gb187) (o := .cells #[.int .i64 ((rd_T52 l0 x10_1).f0), .int .i64 ((rd_T52 l0 x10_1).f1)] 52 (0, 0)) (bk_ BK187.out)) (below_size bls_))
         have n2_ := Aside0.mk (blk_below (g := gb187) (o := .cells #[.int .i64 ((rd_T52 l0 x10_1).f0), .int .i64 ((rd_T52 l0 x10_1).f1)] 52 (0, 0)) (bk_ BK187.out) hb)
         have n3_ := Aside0.mk (Kd.C_below (by repeat (first | (with_reducible exact HR219.out) | (with_reducible refine Kd.C_alloc ?_ _) | (with_reducible refine Kd.C_drewN ?_ _) | (with_reducible refine Kd.C_drew ?_) | exact HR219.out)) hb)
         have n4_ := Aside0.mk (below_step bls_ hb)
         clear HO_3
         clear BK187
         clear HR219
         clear HB
         have HO_3 := n0_
         have HO215 := n1_
         have BK187 := n2_
         have HR219 := n3_
         have HB := n4_
         clear n0_ n1_ n2_ n3_ n4_
         clear hb ho48
         refine hK.out _ _ ⟨(blk_cell BK187.out 0).trans rfl, (blk_cell BK187.out 1).trans rfl⟩ (fun hHeld => ?_)
         clear hK K
         refine nor_ 28 ?_
         refine two_ (i := 4) (j := 6) (Ni := some 32) (Nj := some 34) #[true, true, true, true, true, true, false, false, false] #[true, true, true, true, false, true, true, false, false] rfl rfl rfl rfl (two_of HT_.out (by kernel_rfl)) (by decide) (by decide) (fun K hK => ?_) (fun K hK => ?_)
         ·skip
          refine Kd.R_append_rows_step k52 (w0 := w) w.heap.size (by rfl) (.tmp 28) (.tmp 31) 41 52 (.agg #[(.int .i64 0), (.int .i64 0)]) 16 rfl Try.underlying41 info52 rfl (by decide) (by omega) v214 y213 y216 _ _ _ (fun k_ => some k_ ≠ (.slice Ao44 x3_1.length co44 : Value).ownBlock ∧ k_ ≠ gb187) (fun _ => False) rfl rfl ?aO ?aR (fun _ _ h => h) (fun _ h => h.elim) ?aF ?aB ?aS ?aL ?_
          (case aR => repeat (first | exact (by repeat (first | (with_reducible exact HR219.out) | (with_reducible refine Kd.C_alloc ?_ _) | (with_reducible refine Kd.C_drewN ?_ _) | (with_reducible refine Kd.C_drew ?_) | exact HR219.out)) | (with_reducible refine Kd.C_alloc ?_ _) | (with_reducible refine Kd.C_drewN ?_ _) | (with_reducible refine Kd.C_drew ?_)))
          (case aB => exact bls_)
          (case aF => exact (fun k_ hk => ⟨Kd.fresh' (Kd.R_lt (ra_ HO_3.out)) k_ hk, Kd.freshB (g := gb187) (o := .cells #[.int .i64 ((rd_T52 l0 x10_1).f0), .int .i64 ((rd_T52 l0 x10_1).f1)] 52 (0, 0)) (bk_ BK187.out) k_ hk⟩))
          (case aO => exact (by (with_reducible repeat (first | apply Kd.R_alloc | apply Kd.R_drewN | apply Kd.R_drew)); exact Kd.R_mono HO215.out (fun _ hk => ⟨hk.1.2, hk.2⟩)))
          (case aS => exact (below_size bls_))
          (case aL => have := LMc38.out; omega)
          intro v221 w49 ho hb hg hat
          rw [← Ny220.out] at ho
          have n0_ := Aside0.mk (Kd.R_after (ok := (fun k_ => k_ ≠ gb187)) (ra_ HO_3.out) hg hat)
          have n1_ := Aside0.mk (blk_grown (g := gb187) (o := .cells #[.int .i64 ((rd_T52 l0 x10_1).f0), .int .i64 ((rd_T52 l0 x10_1).f1)] 52 (0, 0)) (bk_ BK187.out) hg (Kd.R_away HO215.out (fun _ hk => hk.2)))
          have n2_ := Aside0.mk (hb)
          have n3_ := Aside0.mk ((show Kd.C k52 w49 Ao44 y216.length y216 from by rw [Ny216.out]; exact Kd.C_take (m := (x6_2 : Int).toNat) ((Kd.R_reads' (Kd.R_after (ok := (fun k_ => k_ ≠ gb187)) (ra_ HO_3.out) hg hat)).2.2) KL46.out))
          have n4_ := Aside0.mk (ho)
          clear HO_3
          clear BK187
          clear HB
          clear HR219
          clear HO215
          have HO_3 := n0_
          have BK187 := n1_
          have HB := n2_
          have HR219 := n3_
          have HO222 := n4_
          clear n0_ n1_ n2_ n3_ n4_
          clear ho hb hg hat
          refine hK.out _ _ ⟨(blk_cell BK187.out 0).trans rfl, (blk_cell BK187.out 1).trans rfl⟩ (fun hHeld => ?_)
          clear hK K
          refine nor_ 32 ?_
          refine one_ (i := 6) (N := some 34) #[true, true, true, true, true, true, true, false, false] rfl rfl (one_of HT_.out (by kernel_rfl)) (by decide) (fun K hK => ?_)
          refine Kd.R_lit_step k52 _ 52 ?hg (N := 34) ?hd (xs := ([(⟨((rd_T52 l0 x10_1).f0), ((rd_T52 l0 x10_1).f1)⟩ : S52)] : List (S52))) (inner := [.int .i64 ((rd_T52 l0 x10_1).f0), .int .i64 ((rd_T52 l0 x10_1).f1)]) (ok := fun _ => True) (okp := fun _ => True) ?hr ?hp (fun _ hk => hk) trivial (Below.refl _ _) (Nat.le_refl _) (by simp) ?_; (case hd => rfl); (case hg => rfl); (case hr => first | (go_simp; done) | (go_simp; rfl)); (case hp => exact (Reps.c2 (show Kd.M k52 _ _ _ (⟨((rd_T52 l0 x10_1).f0), ((rd_T52 l0 x10_1).f1)⟩ : S52) [.int .i64 ((rd_T52 l0 x10_1).f0), .int .i64 ((rd_T52 l0 x10_1).f1)] from (k52_mkM _ _ _ (⟨((rd_T52 l0 x10_1).f0), ((rd_T52 l0 x10_1).f1)⟩ : S52) )) (Reps.none _ _)))
          intro v224 w50 ho51 hb hg_ hnew_
          clear hg_ hnew_
          (first | rw [← Ny223.out] at ho51 | (simp only [Int.reduceToNat] at ho51; rw [← Ny223.out] at ho51))
          have n0_ := Aside0.mk (Kd.R_elder' (ra_ HO_3.out) (Kd.R_base ho51) hb)
          have n1_ := Aside0.mk (Kd.R_elder' (ra_ HO222.out) (Kd.R_base ho51) hb)
          have n2_ := Aside0.mk (Kd.R_lower (Kd.R_newB (Kd.R_new' (Kd.R_new' ho51 (Kd.R_lt (ra_ HO_3.out))) (Kd.R_lt (ra_ HO222.out))) (g := gb187) (o := .cells #[.int .i64 ((rd_T52 l0 x10_1).f0), .int .i64 ((rd_T52 l0 x10_1).f1)] 52 (0, 0)) (bk_ BK187.out)) (below_size bls_))
          have n3_ := Aside0.mk (blk_below (g := gb187) (o := .cells #[.int .i64 ((rd_T52 l0 x10_1).f0), .int .i64 ((rd_T52 l0 x10_1).f1)] 52 (0, 0)) (bk_ BK187.out) hb)
          have n4_ := Aside0.mk (Kd.C_below (by repeat (first | (with_reducible exact HR219.out) | (with_reducible refine Kd.C_alloc ?_ _) | (with_reducible refine Kd.C_drewN ?_ _) | (with_reducible refine Kd.C_drew ?_) | exact HR219.out)) hb)
          have n5_ := Aside0.mk (below_step bls_ hb)
          clear HO_3
          clear HO222
          clear BK187
          clear HR219
          clear HB
          have HO_3 := n0_
          have HO222 := n1_
          have HO225 := n2_
          have BK187 := n3_
          have HR219 := n4_
          have HB := n5_
          clear n0_ n1_ n2_ n3_ n4_ n5_
          clear hb ho51
          refine hK.out _ _ ⟨(blk_cell BK187.out 0).trans rfl, (blk_cell BK187.out 1).trans rfl⟩ (fun hHeld => ?_)
          clear hK K
          refine nor_ 34 ?_
          exact norm_ (by simp only [putAll, Act.put, List.setIfInBounds_toArray, List.set_cons_zero, List.set_cons_succ]) (hCont (v214, v221, v224) _ ⟨hHeld, (by (with_reducible repeat (first | apply Kd.R_alloc | apply Kd.R_drewN | apply Kd.R_drew)); exact Kd.R_mono HO222.out (fun _ hk => ⟨hk.2, ⟨hk.1.1, hk.1.2⟩⟩)), (by (with_reducible repeat (first | apply Kd.R_alloc | apply Kd.R_drewN | apply Kd.R_drew)); exact Kd.R_mono HO225.out (fun _ hk => ⟨hk.1.2, ⟨hk.1.1.2, hk.2⟩⟩)), (by (with_reducible repeat (first | apply Kd.R_alloc | apply Kd.R_drewN | apply Kd.R_drew)); exact Kd.R_mono HO_3.out (fun _ hk => ⟨hk.1.2, ⟨hk.2, hk.1.1⟩⟩)), (bk_ BK187.out), bls_⟩)
         ·skip
          refine Kd.R_lit_step k52 _ 52 ?hg (N := 34) ?hd (xs := ([(⟨((rd_T52 l0 x10_1).f0), ((rd_T52 l0 x10_1).f1)⟩ : S52)] : List (S52))) (inner := [.int .i64 ((rd_T52 l0 x10_1).f0), .int .i64 ((rd_T52 l0 x10_1).f1)]) (ok := fun _ => True) (okp := fun _ => True) ?hr ?hp (fun _ hk => hk) trivial (Below.refl _ _) (Nat.le_refl _) (by simp) ?_; (case hd => rfl); (case hg => rfl); (case hr => first | (go_simp; done) | (go_simp; rfl)); (case hp => exact (Reps.c2 (show Kd.M k52 _ _ _ (⟨((rd_T52 l0 x10_1).f0), ((rd_T52 l0 x10_1).f1)⟩ : S52) [.int .i64 ((rd_T52 l0 x10_1).f0), .int .i64 ((rd_T52 l0 x10_1).f1)] from (k52_mkM _ _ _ (⟨((rd_T52 l0 x10_1).f0), ((rd_T52 l0 x10_1).f1)⟩ : S52) )) (Reps.none _ _)))
          intro v224 w49 ho50 hb hg_ hnew_
          clear hg_ hnew_
          (first | rw [← Ny223.out] at ho50 | (simp only [Int.reduceToNat] at ho50; rw [← Ny223.out] at ho50))
          have n0_ := Aside0.mk (Kd.R_elder' (ra_ HO_3.out) (Kd.R_base ho50) hb)
          have n1_ := Aside0.mk (Kd.R_elder' (ra_ HO215.out) (Kd.R_base ho50) hb)
          have n2_ := Aside0.mk (Kd.R_lower (Kd.R_newB (Kd.R_new' (Kd.R_new' ho50 (Kd.R_lt (ra_ HO_3.out))) (Kd.R_lt (ra_ HO215.out))) (g := gb187) (o := .cells #[.int .i64 ((rd_T52 l0 x10_1).f0), .int .i64 ((rd_T52 l0 x10_1).f1)] 52 (0, 0)) (bk_ BK187.out)) (below_size bls_))
          have n3_ := Aside0.mk (blk_below (g := gb187) (o := .cells #[.int .i64 ((rd_T52 l0 x10_1).f0), .int .i64 ((rd_T52 l0 x10_1).f1)] 52 (0, 0)) (bk_ BK187.out) hb)
          have n4_ := Aside0.mk (Kd.C_below (by repeat (first | (with_reducible exact HR219.out) | (with_reducible refine Kd.C_alloc ?_ _) | (with_reducible refine Kd.C_drewN ?_ _) | (with_reducible refine Kd.C_drew ?_) | exact HR219.out)) hb)
          have n5_ := Aside0.mk (below_step bls_ hb)
          clear HO_3
          clear HO215
          clear BK187
          clear HR219
          clear HB
          have HO_3 := n0_
          have HO215 := n1_
          have HO225 := n2_
          have BK187 := n3_
          have HR219 := n4_
          have HB := n5_
          clear n0_ n1_ n2_ n3_ n4_ n5_
          clear hb ho50
          refine hK.out _ _ ⟨(blk_cell BK187.out 0).trans rfl, (blk_cell BK187.out 1).trans rfl⟩ (fun hHeld => ?_)
          clear hK K
          refine nor_ 34 ?_
          refine one_ (i := 4) (N := some 32) #[true, true, true, true, true, true, true, false, false] rfl rfl (one_of HT_.out (by kernel_rfl)) (by decide) (fun K hK => ?_)
          refine Kd.R_append_rows_step k52 (w0 := w) w.heap.size (by rfl) (.tmp 28) (.tmp 31) 41 52 (.agg #[(.int .i64 0), (.int .i64 0)]) 16 rfl Try.underlying41 info52 rfl (by decide) (by omega) v214 y213 y216 _ _ _ (fun k_ => some k_ ≠ (.slice Ao44 x3_1.length co44 : Value).ownBlock ∧ some k_ ≠ (v224 : Value).ownBlock ∧ k_ ≠ gb187) (fun _ => False) rfl rfl ?aO ?aR (fun _ _ h => h) (fun _ h => h.elim) ?aF ?aB ?aS ?aL ?_
          (case aR => repeat (first | exact (by repeat (first | (with_reducible exact HR219.out) | (with_reducible refine Kd.C_alloc ?_ _) | (with_reducible refine Kd.C_drewN ?_ _) | (with_reducible refine Kd.C_drew ?_) | exact HR219.out)) | (with_reducible refine Kd.C_alloc ?_ _) | (with_reducible refine Kd.C_drewN ?_ _) | (with_reducible refine Kd.C_drew ?_)))
          (case aB => exact bls_)
          (case aF => exact (fun k_ hk => ⟨Kd.fresh' (Kd.R_lt (ra_ HO_3.out)) k_ hk, Kd.fresh' (Kd.R_lt (ra_ HO225.out)) k_ hk, Kd.freshB (g := gb187) (o := .cells #[.int .i64 ((rd_T52 l0 x10_1).f0), .int .i64 ((rd_T52 l0 x10_1).f1)] 52 (0, 0)) (bk_ BK187.out) k_ hk⟩))
          (case aO => exact (by (with_reducible repeat (first | apply Kd.R_alloc | apply Kd.R_drewN | apply Kd.R_drew)); exact Kd.R_mono HO215.out (fun _ hk => ⟨hk.1.1.2, ⟨hk.2, hk.1.2⟩⟩)))
          (case aS => exact (below_size bls_))
          (case aL => have := LMc38.out; omega)
          intro v221 w51 ho hb hg hat
          rw [← Ny220.out] at ho
          have n0_ := Aside0.mk (Kd.R_after (ok := (fun k_ => some k_ ≠ (v224 : Value).ownBlock ∧ k_ ≠ gb187)) (by (with_reducible repeat (first | apply Kd.R_alloc | apply Kd.R_drewN | apply Kd.R_drew)); exact Kd.R_mono HO_3.out (fun _ hk => ⟨⟨hk.2, hk.1.1⟩, hk.1.2⟩)) hg hat)
          have n1_ := Aside0.mk (blk_grown (g := gb187) (o := .cells #[.int .i64 ((rd_T52 l0 x10_1).f0), .int .i64 ((rd_T52 l0 x10_1).f1)] 52 (0, 0)) (bk_ BK187.out) hg (Kd.R_away HO215.out (fun _ hk => hk.1.2)))
          have n2_ := Aside0.mk (Kd.R_after (ok := (fun k_ => some k_ ≠ (.slice Ao44 x3_1.length co44 : Value).ownBlock ∧ k_ ≠ gb187)) (by (with_reducible repeat (first | apply Kd.R_alloc | apply Kd.R_drewN | apply Kd.R_drew)); exact Kd.R_mono HO225.out (fun _ hk => ⟨⟨hk.1.1.2, hk.2⟩, hk.1.2⟩)) hg hat)
          have n3_ := Aside0.mk (hb)
          have n4_ := Aside0.mk ((show Kd.C k52 w51 Ao44 y216.length y216 from by rw [Ny216.out]; exact Kd.C_take (m := (x6_2 : Int).toNat) ((Kd.R_reads' (Kd.R_after (ok := (fun k_ => some k_ ≠ (v224 : Value).ownBlock ∧ k_ ≠ gb187)) (by (with_reducible repeat (first | apply Kd.R_alloc | apply Kd.R_drewN | apply Kd.R_drew)); exact Kd.R_mono HO_3.out (fun _ hk => ⟨⟨hk.2, hk.1.1⟩, hk.1.2⟩)) hg hat)).2.2) KL46.out))
          have n5_ := Aside0.mk (ho)
          clear HO_3
          clear BK187
          clear HO225
          clear HB
          clear HR219
          clear HO215
          have HO_3 := n0_
          have BK187 := n1_
          have HO225 := n2_
          have HB := n3_
          have HR219 := n4_
          have HO222 := n5_
          clear n0_ n1_ n2_ n3_ n4_ n5_
          clear ho hb hg hat
          refine hK.out _ _ ⟨(blk_cell BK187.out 0).trans rfl, (blk_cell BK187.out 1).trans rfl⟩ (fun hHeld => ?_)
          clear hK K
          refine nor_ 32 ?_
          exact norm_ (by simp only [putAll, Act.put, List.setIfInBounds_toArray, List.set_cons_zero, List.set_cons_succ]) (hCont (v214, v221, v224) _ ⟨hHeld, (by (with_reducible repeat (first | apply Kd.R_alloc | apply Kd.R_drewN | apply Kd.R_drew)); exact Kd.R_mono HO222.out (fun _ hk => ⟨hk.2.1, ⟨hk.1, hk.2.2⟩⟩)), (by (with_reducible repeat (first | apply Kd.R_alloc | apply Kd.R_drewN | apply Kd.R_drew)); exact Kd.R_mono HO225.out (fun _ hk => ⟨hk.2, ⟨hk.1.1, hk.1.2⟩⟩)), (by (with_reducible repeat (first | apply Kd.R_alloc | apply Kd.R_drewN | apply Kd.R_drew)); exact Kd.R_mono HO_3.out (fun _ hk => ⟨hk.2, ⟨hk.1.1, hk.1.2⟩⟩)), (bk_ BK187.out), bls_⟩)
        ·skip
         refine Kd.R_lit_step k52 _ 52 ?hg (N := 34) ?hd (xs := ([(⟨((rd_T52 l0 x10_1).f0), ((rd_T52 l0 x10_1).f1)⟩ : S52)] : List (S52))) (inner := [.int .i64 ((rd_T52 l0 x10_1).f0), .int .i64 ((rd_T52 l0 x10_1).f1)]) (ok := fun _ => True) (okp := fun _ => True) ?hr ?hp (fun _ hk => hk) trivial (Below.refl _ _) (Nat.le_refl _) (by simp) ?_; (case hd => rfl); (case hg => rfl); (case hr => first | (go_simp; done) | (go_simp; rfl)); (case hp => exact (Reps.c2 (show Kd.M k52 _ _ _ (⟨((rd_T52 l0 x10_1).f0), ((rd_T52 l0 x10_1).f1)⟩ : S52) [.int .i64 ((rd_T52 l0 x10_1).f0), .int .i64 ((rd_T52 l0 x10_1).f1)] from (k52_mkM _ _ _ (⟨((rd_T52 l0 x10_1).f0), ((rd_T52 l0 x10_1).f1)⟩ : S52) )) (Reps.none _ _)))
         intro v224 w47 ho48 hb hg_ hnew_
         clear hg_ hnew_
         (first | rw [← Ny223.out] at ho48 | (simp only [Int.reduceToNat] at ho48; rw [← Ny223.out] at ho48))
         have n0_ := Aside0.mk (Kd.R_elder' (ra_ HO_3.out) (Kd.R_base ho48) hb)
         have n1_ := Aside0.mk (Kd.R_lower (Kd.R_newB (Kd.R_new' ho48 (Kd.R_lt (ra_ HO_3.out))) (g := gb187) (o := .cells #[.int .i64 ((rd_T52 l0 x10_1).f0), .int .i64 ((rd_T52 l0 x10_1).f1)] 52 (0, 0)) (bk_ BK187.out)) (below_size bls_))
         have n2_ := Aside0.mk (blk_below (g := gb187) (o := .cells #[.int .i64 ((rd_T52 l0 x10_1).f0), .int .i64 ((rd_T52 l0 x10_1).f1)] 52 (0, 0)) (bk_ BK187.out) hb)
         have n3_ := Aside0.mk (Kd.C_below (by repeat (first | (with_reducible exact HR219.out) | (with_reducible refine Kd.C_alloc ?_ _) | (with_reducible refine Kd.C_drewN ?_ _) | (with_reducible refine Kd.C_drew ?_) | exact HR219.out)) hb)
         have n4_ := Aside0.mk (below_step bls_ hb)
         clear HO_3
         clear BK187
         clear HR219
         clear HB
         have HO_3 := n0_
         have HO225 := n1_
         have BK187 := n2_
         have HR219 := n3_
         have HB := n4_
         clear n0_ n1_ n2_ n3_ n4_
         clear hb ho48
         refine hK.out _ _ ⟨(blk_cell BK187.out 0).trans rfl, (blk_cell BK187.out 1).trans rfl⟩ (fun hHeld => ?_)
         clear hK K
         refine nor_ 34 ?_
         refine one_ (i := 0) (N := some 28) #[true, true, true, true, false, true, true, false, false] rfl rfl (one_of HT_.out (by kernel_rfl)) (by decide) (fun K hK => ?_)
         refine Kd.R_lit_step k52 _ 52 ?hg (N := 28) ?hd (xs := ([] : List (S52))) (inner := []) (ok := fun _ => True) (okp := fun _ => True) ?hr ?hp (fun _ hk => hk) trivial (Below.refl _ _) (Nat.le_refl _) (by simp) ?_; (case hd => rfl); (case hg => rfl); (case hr => first | (go_simp; done) | (go_simp; rfl)); (case hp => exact (Reps.none _ _))
         intro v214 w49 ho50 hb hg_ hnew_
         clear hg_ hnew_
         (first | rw [← Ny213.out] at ho50 | (simp only [Int.reduceToNat] at ho50; rw [← Ny213.out] at ho50))
         have n0_ := Aside0.mk (Kd.R_elder' (ra_ HO_3.out) (Kd.R_base ho50) hb)
         have n1_ := Aside0.mk (Kd.R_elder' (ra_ HO225.out) (Kd.R_base ho50) hb)
         have n2_ := Aside0.mk (Kd.R_lower (Kd.R_newB (Kd.R_new' (Kd.R_new' ho50 (Kd.R_lt (ra_ HO_3.out))) (Kd.R_lt (ra_ HO225.out))) (g := gb187) (o := .cells #[.int .i64 ((rd_T52 l0 x10_1).f0), .int .i64 ((rd_T52 l0 x10_1).f1)] 52 (0, 0)) (bk_ BK187.out)) (below_size bls_))
         have n3_ := Aside0.mk (blk_below (g := gb187) (o := .cells #[.int .i64 ((rd_T52 l0 x10_1).f0), .int .i64 ((rd_T52 l0 x10_1).f1)] 52 (0, 0)) (bk_ BK187.out) hb)
         have n4_ := Aside0.mk (Kd.C_below (by repeat (first | (with_reducible exact HR219.out) | (with_reducible refine Kd.C_alloc ?_ _) | (with_reducible refine Kd.C_drewN ?_ _) | (with_reducible refine Kd.C_drew ?_) | exact HR219.out)) hb)
         have n5_ := Aside0.mk (below_step bls_ hb)
         clear HO_3
         clear HO225
         clear BK187
         clear HR219
         clear HB
         have HO_3 := n0_
         have HO225 := n1_
         have HO215 := n2_
         have BK187 := n3_
         have HR219 := n4_
         have HB := n5_
         clear n0_ n1_ n2_ n3_ n4_ n5_
         clear hb ho50
         refine hK.out _ _ ⟨(blk_cell BK187.out 0).trans rfl, (blk_cell BK187.out 1).trans rfl⟩ (fun hHeld => ?_)
         clear hK K
         refine nor_ 28 ?_
         refine one_ (i := 4) (N := some 32) #[true, true, true, true, true, true, true, false, false] rfl rfl (one_of HT_.out (by kernel_rfl)) (by decide) (fun K hK => ?_)
         refine Kd.R_append_rows_step k52 (w0 := w) w.heap.size (by rfl) (.tmp 28) (.tmp 31) 41 52 (.agg #[(.int .i64 0), (.int .i64 0)]) 16 rfl Try.underlying41 info52 rfl (by decide) (by omega) v214 y213 y216 _ _ _ (fun k_ => some k_ ≠ (.slice Ao44 x3_1.length co44 : Value).ownBlock ∧ some k_ ≠ (v224 : Value).ownBlock ∧ k_ ≠ gb187) (fun _ => False) rfl rfl ?aO ?aR (fun _ _ h => h) (fun _ h => h.elim) ?aF ?aB ?aS ?aL ?_
         (case aR => repeat (first | exact (by repeat (first | (with_reducible exact HR219.out) | (with_reducible refine Kd.C_alloc ?_ _) | (with_reducible refine Kd.C_drewN ?_ _) | (with_reducible refine Kd.C_drew ?_) | exact HR219.out)) | (with_reducible refine Kd.C_alloc ?_ _) | (with_reducible refine Kd.C_drewN ?_ _) | (with_reducible refine Kd.C_drew ?_)))
         (case aB => exact bls_)
         (case aF => exact (fun k_ hk => ⟨Kd.fresh' (Kd.R_lt (ra_ HO_3.out)) k_ hk, Kd.fresh' (Kd.R_lt (ra_ HO225.out)) k_ hk, Kd.freshB (g := gb187) (o := .cells #[.int .i64 ((rd_T52 l0 x10_1).f0), .int .i64 ((rd_T52 l0 x10_1).f1)] 52 (0, 0)) (bk_ BK187.out) k_ hk⟩))
         (case aO => exact (by (with_reducible repeat (first | apply Kd.R_alloc | apply Kd.R_drewN | apply Kd.R_drew)); exact Kd.R_mono HO215.out (fun _ hk => ⟨hk.1.1.2, ⟨hk.1.2, hk.2⟩⟩)))
         (case aS => exact (below_size bls_))
         (case aL => have := LMc38.out; omega)
         intro v221 w51 ho hb hg hat
         rw [← Ny220.out] at ho
         have n0_ := Aside0.mk (Kd.R_after (ok := (fun k_ => some k_ ≠ (v224 : Value).ownBlock ∧ k_ ≠ gb187)) (by (with_reducible repeat (first | apply Kd.R_alloc | apply Kd.R_drewN | apply Kd.R_drew)); exact Kd.R_mono HO_3.out (fun _ hk => ⟨⟨hk.1.2, hk.1.1⟩, hk.2⟩)) hg hat)
         have n1_ := Aside0.mk (blk_grown (g := gb187) (o := .cells #[.int .i64 ((rd_T52 l0 x10_1).f0), .int .i64 ((rd_T52 l0 x10_1).f1)] 52 (0, 0)) (bk_ BK187.out) hg (Kd.R_away HO215.out (fun _ hk => hk.2)))
         have n2_ := Aside0.mk (Kd.R_after (ok := (fun k_ => some k_ ≠ (.slice Ao44 x3_1.length co44 : Value).ownBlock ∧ k_ ≠ gb187)) (by (with_reducible repeat (first | apply Kd.R_alloc | apply Kd.R_drewN | apply Kd.R_drew)); exact Kd.R_mono HO225.out (fun _ hk => ⟨⟨hk.1.1.2, hk.1.2⟩, hk.2⟩)) hg hat)
         have n3_ := Aside0.mk (hb)
         have n4_ := Aside0.mk ((show Kd.C k52 w51 Ao44 y216.length y216 from by rw [Ny216.out]; exact Kd.C_take (m := (x6_2 : Int).toNat) ((Kd.R_reads' (Kd.R_after (ok := (fun k_ => some k_ ≠ (v224 : Value).ownBlock ∧ k_ ≠ gb187)) (by (with_reducible repeat (first | apply Kd.R_alloc | apply Kd.R_drewN | apply Kd.R_drew)); exact Kd.R_mono HO_3.out (fun _ hk => ⟨⟨hk.1.2, hk.1.1⟩, hk.2⟩)) hg hat)).2.2) KL46.out))
         have n5_ := Aside0.mk (ho)
         clear HO_3
         clear BK187
         clear HO225
         clear HB
         clear HR219
         clear HO215
         have HO_3 := n0_
         have BK187 := n1_
         have HO225 := n2_
         have HB := n3_
         have HR219 := n4_
         have HO222 := n5_
         clear n0_ n1_ n2_ n3_ n4_ n5_
         clear ho hb hg hat
         refine hK.out _ _ ⟨(blk_cell BK187.out 0).trans rfl, (blk_cell BK187.out 1).trans rfl⟩ (fun hHeld => ?_)
         clear hK K
         refine nor_ 32 ?_
         exact norm_ (by simp only [putAll, Act.put, List.setIfInBounds_toArray, List.set_cons_zero, List.set_cons_succ]) (hCont (v214, v221, v224) _ ⟨hHeld, (by (with_reducible repeat (first | apply Kd.R_alloc | apply Kd.R_drewN | apply Kd.R_drew)); exact Kd.R_mono HO222.out (fun _ hk => ⟨hk.2.1, ⟨hk.1, hk.2.2⟩⟩)), (by (with_reducible repeat (first | apply Kd.R_alloc | apply Kd.R_drewN | apply Kd.R_drew)); exact Kd.R_mono HO225.out (fun _ hk => ⟨hk.2, ⟨hk.1.1, hk.1.2⟩⟩)), (by (with_reducible repeat (first | apply Kd.R_alloc | apply Kd.R_drewN | apply Kd.R_drew)); exact Kd.R_mono HO_3.out (fun _ hk => ⟨hk.2, ⟨hk.1.1, hk.1.2⟩⟩)), (bk_ BK187.out), bls_⟩)
       rintro ⟨v214, v221, v224⟩ w52 ⟨hS_, h0_, h1_, h2_, h3_, h4_⟩
       have n0_ : Aside0 (Kd.R k52 52 w52 w.heap.size (fun k_ => some k_ ≠ (v224 : Value).ownBlock ∧ some k_ ≠ (.slice Ao44 x3_1.length co44 : Value).ownBlock ∧ k_ ≠ gb187) v221 y220) := ⟨h0_⟩
       have n1_ : Aside0 (Kd.R k52 52 w52 w.heap.size (fun k_ => some k_ ≠ (v221 : Value).ownBlock ∧ some k_ ≠ (.slice Ao44 x3_1.length co44 : Value).ownBlock ∧ k_ ≠ gb187) v224 y223) := ⟨h1_⟩
       have n2_ : Aside0 (Kd.R k52 52 w52 w.heap.size (fun k_ => some k_ ≠ (v221 : Value).ownBlock ∧ some k_ ≠ (v224 : Value).ownBlock ∧ k_ ≠ gb187) (.slice Ao44 x3_1.length co44) x3_1) := ⟨h2_⟩
       have n3_ : Aside0 (w52.heap[gb187]? = some (.cells #[.int .i64 ((rd_T52 l0 x10_1).f0), .int .i64 ((rd_T52 l0 x10_1).f1)] 52 (0, 0))) := ⟨h3_⟩
       have n4_ : Aside0 (Below w.heap.size w w52) := ⟨h4_⟩
       clear HO_3
       clear BK187
       clear HB
       clear h0_ h1_ h2_ h3_ h4_
       have HO222 := n0_
       have HO225 := n1_
       have HO_3 := n2_
       have BK187 := n3_
       have HB := n4_
       clear n0_ n1_ n2_ n3_ n4_
       have hHeld : w52.cell? ⟨gb187, 0, none⟩ = some (.int .i64 ((rd_T52 l0 x10_1).f0)) ∧ w52.cell? ⟨gb187, 1, none⟩ = some (.int .i64 ((rd_T52 l0 x10_1).f1)) := hS_
       obtain ⟨Ao54, co54, eo54⟩ := Kd.R_slice HO225.out
       (first | subst eo54 | (injection eo54 with f1_ f2_ f3_; have f4_ := f1_.symm; have f5_ := f3_.symm; clear f1_ f2_ f3_; subst f4_; subst f5_))
       refine norm_ (a' := ?_) ?_ ?_
       rotate_left
       ·simp only [putAll, Act.put, List.setIfInBounds_toArray, List.set_cons_zero, List.set_cons_succ]
        rfl
       refine one_ (i := 7) (N := some 35) #[true, true, true, true, true, true, true, true, false] rfl rfl (one_of HT_.out (by kernel_rfl)) (by decide) (fun K hK => ?_)
       refine Kd.R_append_rows_step k52 (w0 := w) w.heap.size (by rfl) (.tmp 32) (.tmp 34) 41 52 (.agg #[(.int .i64 0), (.int .i64 0)]) 16 rfl Try.underlying41 info52 rfl (by decide) (by omega) v221 y220 y223 _ _ _ (fun k_ => some k_ ≠ (.slice Ao44 x3_1.length co44 : Value).ownBlock ∧ some k_ ≠ (.slice Ao54 y223.length co54 : Value).ownBlock ∧ k_ ≠ gb187) (fun _ => False) rfl rfl ?aO ?aR (fun _ _ h => h) (fun _ h => h.elim) ?aF ?aB ?aS ?aL ?_
       (case aR => repeat (first | exact (Kd.R_reads' HO225.out).2.2 | (with_reducible refine Kd.C_alloc ?_ _) | (with_reducible refine Kd.C_drewN ?_ _) | (with_reducible refine Kd.C_drew ?_)))
       (case aB => exact bls_)
       (case aF => exact (fun k_ hk => ⟨Kd.fresh' (Kd.R_lt (ra_ HO_3.out)) k_ hk, Kd.fresh' (Kd.R_lt (ra_ HO225.out)) k_ hk, Kd.freshB (g := gb187) (o := .cells #[.int .i64 ((rd_T52 l0 x10_1).f0), .int .i64 ((rd_T52 l0 x10_1).f1)] 52 (0, 0)) (bk_ BK187.out) k_ hk⟩))
       (case aO => exact (by (with_reducible repeat (first | apply Kd.R_alloc | apply Kd.R_drewN | apply Kd.R_drew)); exact Kd.R_mono HO222.out (fun _ hk => ⟨hk.2.1, ⟨hk.1, hk.2.2⟩⟩)))
       (case aS => exact (below_size bls_))
       (case aL => have := LMc39.out; omega)
       intro v227 w53 ho hb hg hat
       rw [← Ny226.out] at ho
       have n0_ := Aside0.mk (Kd.R_after (ok := (fun k_ => some k_ ≠ (.slice Ao54 y223.length co54 : Value).ownBlock ∧ k_ ≠ gb187)) (by (with_reducible repeat (first | apply Kd.R_alloc | apply Kd.R_drewN | apply Kd.R_drew)); exact Kd.R_mono HO_3.out (fun _ hk => ⟨⟨hk.2.1, hk.2.2⟩, hk.1⟩)) hg hat)
       have n1_ := Aside0.mk (blk_grown (g := gb187) (o := .cells #[.int .i64 ((rd_T52 l0 x10_1).f0), .int .i64 ((rd_T52 l0 x10_1).f1)] 52 (0, 0)) (bk_ BK187.out) hg (Kd.R_away HO222.out (fun _ hk => hk.2.2)))
       have n2_ := Aside0.mk (Kd.R_after (ok := (fun k_ => some k_ ≠ (.slice Ao44 x3_1.length co44 : Value).ownBlock ∧ k_ ≠ gb187)) (by (with_reducible repeat (first | apply Kd.R_alloc | apply Kd.R_drewN | apply Kd.R_drew)); exact Kd.R_mono HO225.out (fun _ hk => ⟨⟨hk.2.1, hk.2.2⟩, hk.1⟩)) hg hat)
       have n3_ := Aside0.mk (hb)
       have n4_ := Aside0.mk (ho)
       clear HO_3
       clear BK187
       clear HO225
       clear HB
       clear HO222
       have HO_3 := n0_
       have BK187 := n1_
       have HO225 := n2_
       have HB := n3_
       have HO228 := n4_
       clear n0_ n1_ n2_ n3_ n4_
       clear ho hb hg hat
       refine hK.out _ _ ⟨(blk_cell BK187.out 0).trans rfl, (blk_cell BK187.out 1).trans rfl⟩ (fun hHeld => ?_)
       clear hK K
       refine nor_ 35 ?_
       refine pux_ 8 7 HT_ ?_
       refine done_ (done_of HT_.out (by kernel_rfl)) ?_
       have q55 : (x6_2 : Int) ≤ ((x3_1.length : Int) : Int) := odt_
       obtain ⟨i055, hi055, _, hsz55, _⟩ := info_parts info52
       have hroom55 : x3_1.length ≤ co44 := (Kd.R_reads' HO_3.out).2.1
       have hC55 : Kd.C k52 _ Ao44 x3_1.length x3_1 := (Kd.R_reads' HO_3.out).2.2
       have q055 : (0 : Int) ≤ (x6_2 : Int) := odt_
       have hcut55 := cut_from (P := Try.prog) 41 52 .i64 Try.underlying41 hi055 2 hsz55 Ao44 x3_1.length co44 x6_2 q055 q55
       have hr55 := Kd.C_drop (m := (x6_2 : Int).toNat) (c := co44) hC55 (by omega) hroom55
       obtain ⟨A55, hA55⟩ : ∃ A1, A1 = (if co44 = (x6_2 : Int).toNat then Ao44 else (Ao44 : Option Addr).map (·.add ((x6_2 : Int).toNat * 2))) := ⟨_, rfl⟩
       obtain ⟨c55, hc55⟩ : ∃ c1, c1 = co44 - (x6_2 : Int).toNat := ⟨_, rfl⟩
       have hy55 : y229.length = x3_1.length - (x6_2 : Int).toNat := (by rw [Ny229.out, List.length_drop] <;> omega)
       rw [show (x3_1).drop (x6_2 : Int).toNat = y229 from Ny229.out.symm] at hr55
       replace hr55 : Kd.C k52 _ A55 y229.length y229 := (by rw [hA55]; exact hr55)
       rw [← hy55, ← hA55, ← hc55] at hcut55
       have HR232 := Aside0.mk hr55
       have HC232 := Aside0.mk (show y229.length ≤ c55 from by rw [hy55, hc55]; exact Nat.sub_le_sub_right hroom55 _)
       clear hr55 hC55 hroom55 hi055 hsz55 hc55
       have KY55 := Aside0.mk hy55
       have KA55 := Aside0.mk hA55
       clear hy55 hA55
       have KL55 := Aside0.mk (show (x6_2 : Int).toNat ≤ x3_1.length from by omega)
       replace q55 := eq_true q55
       try go_wp2_with (first | ((with_reducible refine gate_builtin (b := .append) (xs := #[.tmp 36, .tmp 39]) rfl ?_); at_builtin; refine Kd.R_append_rows k52 (w0 := w) w.heap.size rfl (.tmp 36) (.tmp 39) 41 52 (.agg #[(.int .i64 0), (.int .i64 0)]) 16 rfl Try.underlying41 info52 rfl (by decide) (by omega) v227 y226 y229 _ _ _ (fun k_ => some k_ ≠ (.slice Ao44 x3_1.length co44 : Value).ownBlock ∧ some k_ ≠ (.slice Ao54 y223.length co54 : Value).ownBlock ∧ k_ ≠ gb187) (fun _ => False) rfl rfl ?aO ?aR (fun _ _ h => h) (fun _ h => h.elim) ?aF ?aB ?aS ?aL ?_; (case aR => repeat (first | exact (by repeat (first | (with_reducible exact HR232.out) | (with_reducible refine Kd.C_alloc ?_ _) | (with_reducible refine Kd.C_drewN ?_ _) | (with_reducible refine Kd.C_drew ?_) | exact HR232.out)) | (with_reducible refine Kd.C_alloc ?_ _) | (with_reducible refine Kd.C_drewN ?_ _) | (with_reducible refine Kd.C_drew ?_))); (case aB => exact bls_); (case aF => exact (fun k_ hk => ⟨Kd.fresh' (Kd.R_lt (ra_ HO_3.out)) k_ hk, Kd.fresh' (Kd.R_lt (ra_ HO225.out)) k_ hk, Kd.freshB (g := gb187) (o := .cells #[.int .i64 ((rd_T52 l0 x10_1).f0), .int .i64 ((rd_T52 l0 x10_1).f1)] 52 (0, 0)) (bk_ BK187.out) k_ hk⟩)); (case aO => exact (ra_ HO228.out)); (case aS => exact (below_size bls_)); (case aL => have := LMc42.out; omega); intro v234 w56 ho hb hg hat; rw [← Ny233.out] at ho; have n0_ := Aside0.mk (Kd.R_after (ok := (fun k_ => some k_ ≠ (.slice Ao54 y223.length co54 : Value).ownBlock ∧ k_ ≠ gb187)) (ra_ HO_3.out) hg hat); have n1_ := Aside0.mk (blk_grown (g := gb187) (o := .cells #[.int .i64 ((rd_T52 l0 x10_1).f0), .int .i64 ((rd_T52 l0 x10_1).f1)] 52 (0, 0)) (bk_ BK187.out) hg (Kd.R_away HO228.out (fun _ hk => hk.2.2))); have n2_ := Aside0.mk (Kd.R_after (ok := (fun k_ => some k_ ≠ (.slice Ao44 x3_1.length co44 : Value).ownBlock ∧ k_ ≠ gb187)) (ra_ HO225.out) hg hat); have n3_ := Aside0.mk (hb); have n4_ := Aside0.mk ((show Kd.C k52 w56 A55 y229.length y229 from by rw [Ny229.out, KA55.out]; exact Kd.C_drop (m := (x6_2 : Int).toNat) (c := co44) ((Kd.R_reads' (Kd.R_after (ok := (fun k_ => some k_ ≠ (.slice Ao54 y223.length co54 : Value).ownBlock ∧ k_ ≠ gb187)) (ra_ HO_3.out) hg hat)).2.2) KL55.out ((Kd.R_reads' (Kd.R_after (ok := (fun k_ => some k_ ≠ (.slice Ao54 y223.length co54 : Value).ownBlock ∧ k_ ≠ gb187)) (ra_ HO_3.out) hg hat)).2.1))); have n5_ := Aside0.mk (ho); clear HO_3; clear BK187; clear HO225; clear HB; clear HR232; clear HO228; have HO_3 := n0_; have BK187 := n1_; have HO225 := n2_; have HB := n3_; have HR232 := n4_; have HO235 := n5_; clear n0_ n1_ n2_ n3_ n4_ n5_; clear ho hb hg hat))
       go_roundg k2
       case measure => have := HK1.out; have := HK2.out; omega
       case rel => exact ⟨(y233), (wrap64 (x10_1 + 1)), rsd_, H', ⟨by have := HK1.out; have := HK2.out; omega⟩, ⟨by (with_reducible repeat (first | apply Kd.R_alloc | apply Kd.R_drewN | apply Kd.R_drew)); exact Kd.R_mono HO235.out (fun _ hk => trivial)⟩, ⟨bls_⟩⟩
   ·rw [if_neg c2] at H
    have c2b0 : decide (x10_1 < (l0.length : Int)) = false := decide_eq_false c2
    clear c2
    obtain rfl := Option.some.inj H
    go_wp2
    go_ret
    exact ⟨_, by first | rfl | (simp [errW_none, errW_some] <;> rfl) | (simp [*, errW_none, errW_some] <;> rfl), by (with_reducible repeat (first | apply Kd.R_alloc | apply Kd.R_drewN | apply Kd.R_drew)); exact HO_3.out, blw_⟩

end Go.Proofs.Ytgblginphicacaa.PFnExactRankOfQuiddity
