-- WRITTEN BY A PROGRAM OF THIS WORK (wip/tools/ppatch.py) for this claim.
import Derived.Test.YtnjejmfnacpdoaaPFnExactCountClassesx0
import Derived.Test.YtnjejmfnacpdoaaPFnExactCountClassesx7
import Derived.Test.YtnjejmfnacpdoaaPFnExactCountClassesx8
import Derived.Test.YtnjejmfnacpdoaaPFnExactCountClassesx9
import Derived.Test.YtnjejmfnacpdoaaPFnExactCountClassesx12
namespace Go.Proofs.Ytnjejmfnacpdoaa.PFnExactCountClasses
open Go.RowKit Go.Proofs.YtnjejmfnacpdoaaW.PrintWords Go.Proofs.YtnjejmfnacpdoaaW.PrintLast Go.Proofs.YtnjejmfnacpdoaaW.PrintMore
attribute [local go_sem] max2_int min2_int max_two min_two max_three min_three max_four min_four   -- for this text's walks alone
set_option linter.unusedVariables false
set_option linter.unusedSimpArgs false

-- TOLD FOR impl_renamed_s5: impl.renamed | impl.mirrored$1
/-! ### impl_renamed_s5: function 100005 -/
def impl_renamed_s5.l0 : Nat → List (S70) → List (S70) → Int → Int → Int → Option ((List (S70)))
 | 0, _, _, _, _, _ => none
 | k + 1, x5, x11, x12, x13, x21000 => if x13 < x12 then (if 0 ≤ x13 then (if x13 < (x11.length : Int) then ((impl_mirrored_1_s6.f ((rd_T70 x11 x13).f0) x21000).bind fun t286 => ((impl_mirrored_1_s6.f ((rd_T70 x11 x13).f1) x21000).bind fun t287 => (if x5.length < 8796093022208 then (impl_renamed_s5.l0 k (x5 ++ [(⟨mn t286 t287, mx t286 t287⟩ : S70)]) x11 x12 (wrap64 (x13 + 1)) x21000) else (none)))) else (none)) else (none)) else ((impl_Diagonal_103_s3.f k x5).bind fun t291 => (some t291))
def impl_renamed_s5.f (k : Nat) (l0 : List (S70)) (a1_0_0 : Int) : Option ((List (S70))) := impl_renamed_s5.l0 k (([] : List (S70))) l0 (l0.length : Int) 0 a1_0_0
theorem impl_renamed_s5.mono_l : ∀ k, (∀ y0 y1 y2 y3 y4, LeO (impl_renamed_s5.l0 k y0 y1 y2 y3 y4) (impl_renamed_s5.l0 (k + 1) y0 y1 y2 y3 y4))
 | 0 => fun _ _ _ _ _ r h => by simp [impl_renamed_s5.l0] at h
 | k + 1 => by
  have ih0 := impl_renamed_s5.mono_l k
  ·intro y0 y1 y2 y3 y4
   unfold impl_renamed_s5.l0
   repeat' first
   | (with_reducible exact ih0 _ _ _ _ _)
   | (with_reducible exact impl_Diagonal_103_s3.mono _ _)
   | (with_reducible exact LeO.refl _)
   | (with_reducible exact LeO.none _)
   | (with_reducible refine LeO.ite ?_ ?_)
   | (with_reducible refine LeO.bind ?_ (fun _ => ?_))
   | exact ih0 _ _ _ _ _
   | exact impl_Diagonal_103_s3.mono _ _
   | exact LeO.none _
   | refine LeO.ite ?_ ?_
   | refine LeO.bind ?_ (fun _ => ?_)
theorem impl_renamed_s5.mono : ∀ a0 a1 k, LeO (impl_renamed_s5.f k a0 a1) (impl_renamed_s5.f (k + 1) a0 a1) := by
 intro a0 a1 k
 have ih0 := impl_renamed_s5.mono_l k
 unfold impl_renamed_s5.f
 repeat' first
   | (with_reducible exact ih0 _ _ _ _ _)
   | (with_reducible exact impl_Diagonal_103_s3.mono _ _)
   | (with_reducible exact LeO.refl _)
   | (with_reducible exact LeO.none _)
   | (with_reducible refine LeO.ite ?_ ?_)
   | (with_reducible refine LeO.bind ?_ (fun _ => ?_))
   | exact ih0 _ _ _ _ _
   | exact impl_Diagonal_103_s3.mono _ _
   | exact LeO.none _
   | refine LeO.ite ?_ ?_
   | refine LeO.bind ?_ (fun _ => ?_)
def impl_renamed_s5.T5 : Bool × List (List Nat × List Nat) := (true, [([], []), ([], []), ([1], [1]), ([0, 2], [0, 2]), ([], []), ([], []), ([5], [5]), ([4, 6, 3], [4, 6]), ([3, 7, 0, 1, 2, 3], [3]), ([7, 8, 0, 1, 2, 3, 4, 5, 6, 7, 8], [7])])
def impl_renamed_s5.B5 : List Nat := [0, 0, 2, 7, 0, 0, 32, 127, 255, 511]
theorem impl_renamed_s5.tab5 : rtab .any (opsOf Try.f120 5) = impl_renamed_s5.T5 := by kernel_rfl
theorem impl_renamed_s5.bits5 : waitsOk impl_renamed_s5.T5.2 impl_renamed_s5.B5 = true := by kernel_rfl
set_option maxHeartbeats 8000000 in
set_option maxRecDepth 100000 in
theorem impl_renamed_s5.calls (k : Nat) (A0 : Option Addr) (c0 : Nat) (l0 : List (S70)) (gc1_0 : Nat) (a1_0_0 : Int) (r : List (S70)) (w : World) (hr0 : Kd.C k70 w A0 l0.length l0) (hc0 : l0.length ≤ c0) (hb1_0 : w.heap[gc1_0]? = some (.cells #[.int .i64 a1_0_0] 3 (0, 0))) (h : impl_renamed_s5.f k l0 a1_0_0 = some r) :
  Calls Try.prog 120 #[.slice A0 l0.length c0, .func (.func 121) #[] #[.pointer (some ⟨gc1_0, 0, none⟩)]] w fun e w' => ∃ v0_ : Value, e = .returned (v0_) ∧ Kd.R k70 70 w' w.heap.size (fun _ => True) v0_ r ∧ Below w.heap.size w w' := by
 have hu70 := Try.underlying70
 have HR0 := Aside0.mk hr0
 have HC0 := Aside0.mk hc0
 clear hr0 hc0
 have BK20 := Aside0.mk hb1_0
 clear hb1_0
 have HB := Aside0.mk (Below.refl w.heap.size w)
 have H : (impl_renamed_s5.l0 k (([] : List (S70))) l0 (l0.length : Int) 0 a1_0_0) = some r := h
 clear h
 obtain ⟨y281, hy281⟩ : ∃ y_ : List (S70), y_ = (([] : List (S70))) := ⟨_, rfl⟩
 replace H : (impl_renamed_s5.l0 k y281 l0 (l0.length : Int) 0 a1_0_0) = some r := by first | (rw [hy281]; with_reducible exact H) | (have H2_ := (Option.bind_some _ _).symm.trans H; rw [hy281]; with_reducible exact H2_) | (have H2_ := (Option.bind_some _ _).symm.trans H; with_reducible exact H2_) | with_reducible exact H | (rw [hy281]; exact H) | exact H
 have Ny281 := Aside0.mk hy281
 clear hy281
 have H' := Aside0.mk H
 clear H
 go_enter Try.func120, Try.ntmps120
 go_wp2_with (first | ((with_reducible refine gate_dst (N := 10) rfl ?_); refine Kd.R_lit k70 _ 70 ?hg (N := 10) ?hd (xs := ([] : List (S70))) (inner := []) (ok := fun _ => True) (okp := fun _ => True) ?hr ?hp (fun _ hk => hk) trivial (Below.refl _ _) (Nat.le_refl _) (by simp) ?_; (case hd => rfl); (case hg => rfl); (case hr => first | (go_simp; done) | (go_simp; rfl)); (case hp => exact (Reps.none _ _)); intro v282 w3 ho4 hb hg_ hnew_; clear hg_ hnew_; (first | rw [← Ny281.out] at ho4 | (simp only [Int.reduceToNat] at ho4; rw [← Ny281.out] at ho4)); have n0_ := Aside0.mk (Kd.R_lower ho4 (below_size (by repeat (first | (with_reducible first | exact HB.out | apply below_alloc | apply pw_below_drewN | apply below_drew1 | refine below_set ?_ GE20.out) | exact HB.out)))); have n1_ := Aside0.mk (blk_below (g := gc1_0) (o := .cells #[.int .i64 a1_0_0] 3 (0, 0)) (bk_ BK20.out) hb); have n2_ := Aside0.mk (below_step (by repeat (first | (with_reducible first | exact HB.out | apply below_alloc | apply pw_below_drewN | apply below_drew1 | refine below_set ?_ GE20.out) | exact HB.out)) hb); clear BK20; clear HB; have HO283 := n0_; have BK20 := n1_; have HB := n2_; clear n0_ n1_ n2_; clear hb ho4))
 go_loopg [5, 13] k (fun kq v5 v13 w' => ∃ (x5_1 : List (S70)) (x13_1 : Int), v13 = .int .i64 x13_1 ∧ Aside0 (impl_renamed_s5.l0 kq x5_1 l0 (l0.length : Int) x13_1 a1_0_0 = some r) ∧ Aside0 (kq ≤ k) ∧ Aside0 (Kd.R k70 70 w' w.heap.size (fun _ => True) v5 x5_1) ∧ Aside0 (w'.heap[gc1_0]? = some (.cells #[.int .i64 a1_0_0] 3 (0, 0))) ∧ Aside0 (Below w.heap.size w w'))
 case atStart => exact ⟨(y281), (0), (by first | rfl | (simp; done) | (simp [*]; done)), H', ⟨Nat.le_refl _⟩, ⟨ra_ HO283.out⟩, ⟨bk_ BK20.out⟩, ⟨by repeat (first | (with_reducible first | exact HB.out | apply below_alloc | apply pw_below_drewN | apply below_drew1 | refine below_set ?_ GE20.out) | exact HB.out)⟩⟩
 case round =>
  clear H'
  try clear c1
  try clear p2
  try clear HO_5
  obtain ⟨x5_1, x13_1, rfl, HA, HK1, HO_5, BK20, HB⟩ := hrel
  cases gk with
  | zero => exact absurd HA.out (by simp [impl_renamed_s5.l0])
  | succ k1 =>
   have H := HA.out
   clear HA
   simp only [impl_renamed_s5.l0] at H
   by_cases c5 : x13_1 < (l0.length : Int)
   ·rw [if_pos c5] at H
    have c5b0 : decide (x13_1 < (l0.length : Int)) = true := decide_eq_true c5
    clear c5
    by_cases c6 : 0 ≤ x13_1
    ·rw [if_pos c6] at H
     have c6b0 : decide (0 ≤ x13_1) = true := decide_eq_true c6
     clear c6
     by_cases c7 : x13_1 < (l0.length : Int)
     ·rw [if_pos c7] at H
      have c7b0 : decide (x13_1 < (l0.length : Int)) = true := decide_eq_true c7
      clear c7
      replace H := Option.bind_eq_some_iff.mp H
      obtain ⟨t286, A80, H⟩ := H
      replace H : ((impl_mirrored_1_s6.f ((rd_T70 l0 x13_1).f1) a1_0_0).bind fun t287 => (if x5_1.length < 8796093022208 then (impl_renamed_s5.l0 k1 (x5_1 ++ [(⟨mn t286 t287, mx t286 t287⟩ : S70)]) l0 (l0.length : Int) (wrap64 (x13_1 + 1)) a1_0_0) else (none))) = some r := H
      have A8 := Aside0.mk A80
      clear A80
      replace H := Option.bind_eq_some_iff.mp H
      obtain ⟨t287, A90, H⟩ := H
      replace H : (if x5_1.length < 8796093022208 then (impl_renamed_s5.l0 k1 (x5_1 ++ [(⟨mn t286 t287, mx t286 t287⟩ : S70)]) l0 (l0.length : Int) (wrap64 (x13_1 + 1)) a1_0_0) else (none)) = some r := H
      have A9 := Aside0.mk A90
      clear A90
      obtain ⟨ji10, hji10⟩ : ∃ j_ : Int, (mn t286 t287) = j_ := ⟨_, rfl⟩
      replace H : (if x5_1.length < 8796093022208 then (impl_renamed_s5.l0 k1 (x5_1 ++ [(⟨ji10, mx t286 t287⟩ : S70)]) l0 (l0.length : Int) (wrap64 (x13_1 + 1)) a1_0_0) else (none)) = some r := by first | (rw [hji10] at H; exact H) | (simp only [hji10] at H ⊢; exact H)
      (try rw [hji10] at A8)
      (try rw [hji10] at A9)
      have hji10_ : (if t287 < t286 then t287 else t286) = ji10 := hji10
      obtain ⟨ji11, hji11⟩ : ∃ j_ : Int, (mx t286 t287) = j_ := ⟨_, rfl⟩
      replace H : (if x5_1.length < 8796093022208 then (impl_renamed_s5.l0 k1 (x5_1 ++ [(⟨ji10, ji11⟩ : S70)]) l0 (l0.length : Int) (wrap64 (x13_1 + 1)) a1_0_0) else (none)) = some r := by first | (rw [hji11] at H; exact H) | (simp only [hji11] at H ⊢; exact H)
      (try rw [hji11] at A8)
      (try rw [hji11] at A9)
      have hji11_ : (if t286 < t287 then t287 else t286) = ji11 := hji11
      by_cases c12 : x5_1.length < 8796093022208
      ·rw [if_pos c12] at H
       have LMc12 := Aside0.mk c12
       clear c12
       obtain ⟨y288, hy288⟩ : ∃ y_ : List (S70), y_ = (x5_1 ++ [(⟨ji10, ji11⟩ : S70)]) := ⟨_, rfl⟩
       replace H : (impl_renamed_s5.l0 k1 y288 l0 (l0.length : Int) (wrap64 (x13_1 + 1)) a1_0_0) = some r := by first | (rw [hy288]; with_reducible exact H) | (have H2_ := (Option.bind_some _ _).symm.trans H; rw [hy288]; with_reducible exact H2_) | (have H2_ := (Option.bind_some _ _).symm.trans H; with_reducible exact H2_) | with_reducible exact H | (rw [hy288]; exact H) | exact H
       have Ny288 := Aside0.mk hy288
       clear hy288
       have H' := Aside0.mk H
       clear H
       have p284 : 0 ≤ (x13_1 : Int) := odt_
       have q284 : x13_1 < (l0.length : Int) := odt_
       obtain ⟨ad284, e284, hx284_0, hx284_1⟩ := at_T70 HR0.out x13_1 p284 q284
       cases e284
       (first | replace hx284_0 := (HB.out.cell (World.block_lt_of_cell? w _ hx284_0)).trans hx284_0 | skip)
       (first | replace hx284_1 := (HB.out.cell (World.block_lt_of_cell? w _ hx284_1)).trans hx284_1 | skip)
       replace p284 := eq_true p284
       replace q284 := eq_true q284
       try go_wp2_with (first | ((with_reducible refine gate_dst (N := 7) rfl ?_); refine box_event ?hg (N := 7) ?hd (cs := #[.int .i64 0, .int .i64 0]) (t := 70) ?hr ?_; (case hd => rfl); (case hg => rfl); (case hr => first | (go_simp; done) | (go_simp; rfl)); intro gb285 hg w13 hbox hb; have n0_ := Aside0.mk (Kd.R_below (Kd.R_elderB (ra_ HO_5.out) gb285 (Nat.le_of_eq hg.symm)) hb); have n1_ := Aside0.mk (blk_below (g := gc1_0) (o := .cells #[.int .i64 a1_0_0] 3 (0, 0)) (bk_ BK20.out) hb); have n2_ := Aside0.mk (below_step (by repeat (first | (with_reducible first | exact HB.out | apply below_alloc | apply pw_below_drewN | apply below_drew1 | refine below_set ?_ GE20.out) | exact HB.out)) hb); have n3_ := Aside0.mk (hbox); have n4_ := Aside0.mk ((by rw [hg]; exact (below_size (by repeat (first | (with_reducible first | exact HB.out | apply below_alloc | apply pw_below_drewN | apply below_drew1 | refine below_set ?_ GE20.out) | exact HB.out))) : w.heap.size ≤ gb285)); have n5_ := Aside0.mk ((by rw [hg]; exact (below_size (by repeat (first | (with_reducible first | exact HB.out | apply below_alloc | apply pw_below_drewN | apply below_drew1 | refine below_set ?_ GE20.out) | exact HB.out))) : w.heap.size ≤ gb285)); have n6_ := Aside0.mk ((by rw [hg]; exact Nat.ne_of_lt (blk_lt (g := gc1_0) (o := .cells #[.int .i64 a1_0_0] 3 (0, 0)) (bk_ BK20.out)) : gc1_0 ≠ gb285)); have n7_ := Aside0.mk ((by rw [hg]; exact Nat.ne_of_gt (blk_lt (g := gc1_0) (o := .cells #[.int .i64 a1_0_0] 3 (0, 0)) (bk_ BK20.out)) : gb285 ≠ gc1_0)); clear HO_5; clear BK20; clear HB; have HO_5 := n0_; have BK20 := n1_; have HB := n2_; have BK285 := n3_; have GW285 := n4_; have GE285 := n5_; have NB20_285 := n6_; have NB285_20 := n7_; clear n0_ n1_ n2_ n3_ n4_ n5_ n6_ n7_; clear hb hbox hg; have hnb14 := NB285_20.out; have hnc14 := NB20_285.out; have hcz15_0 : w13.cell? ⟨gb285, 0, none⟩ = some (.int .i64 0) := (blk_cell BK285.out 0).trans rfl; have hcz15_1 : w13.cell? ⟨gb285, 1, none⟩ = some (.int .i64 0) := (blk_cell BK285.out 1).trans rfl; have hfz15_0 := blk_frozen BK285.out 0; have hfz15_1 := blk_frozen BK285.out 1))
       have n0_ : Aside0 (Kd.R k70 70 ((w13.setCell ⟨gb285, 0, none⟩ (.int .i64 ((rd_T70 l0 x13_1).f0))).setCell ⟨gb285, 1, none⟩ (.int .i64 ((rd_T70 l0 x13_1).f1))) w.heap.size (fun k_ => k_ ≠ gb285) u5 x5_1) := ⟨by (with_reducible repeat (first | apply Kd.R_alloc | apply Kd.R_drewN | apply Kd.R_drew)); exact Kd.R_mono (Kd.R_far (p := ⟨gb285, 1, none⟩) (Kd.R_far (p := ⟨gb285, 0, none⟩) (Kd.R_mono HO_5.out (fun k_ hk => (⟨hk, hk.2⟩ : _ ∧ k_ ≠ gb285))) (fun _ hk => hk.2) (.int .i64 ((rd_T70 l0 x13_1).f0))) (fun _ hk => hk.2) (.int .i64 ((rd_T70 l0 x13_1).f1))) (fun _ hk => hk.1.2)⟩
       have n1_ : Aside0 (((w13.setCell ⟨gb285, 0, none⟩ (.int .i64 ((rd_T70 l0 x13_1).f0))).setCell ⟨gb285, 1, none⟩ (.int .i64 ((rd_T70 l0 x13_1).f1))).heap[gc1_0]? = some (.cells #[.int .i64 a1_0_0] 3 (0, 0))) := ⟨by (with_reducible repeat (first | refine blk_drewN ?_ _ | refine blk_drew ?_ | refine blk_alloc ?_ _)); refine blk_far ?_ NB20_285.out _; (with_reducible repeat (first | refine blk_drewN ?_ _ | refine blk_drew ?_ | refine blk_alloc ?_ _)); refine blk_far ?_ NB20_285.out _; (with_reducible repeat (first | refine blk_drewN ?_ _ | refine blk_drew ?_ | refine blk_alloc ?_ _)); exact BK20.out⟩
       have n2_ : Aside0 (((w13.setCell ⟨gb285, 0, none⟩ (.int .i64 ((rd_T70 l0 x13_1).f0))).setCell ⟨gb285, 1, none⟩ (.int .i64 ((rd_T70 l0 x13_1).f1))).heap[gb285]? = some (.cells #[.int .i64 ((rd_T70 l0 x13_1).f0), .int .i64 ((rd_T70 l0 x13_1).f1)] 70 (0, 0))) := ⟨by (with_reducible repeat (first | refine blk_drewN ?_ _ | refine blk_drew ?_ | refine blk_alloc ?_ _)); refine blk_put (cs := #[.int .i64 ((rd_T70 l0 x13_1).f0), .int .i64 0]) ?_ 1 _ rfl; (with_reducible repeat (first | refine blk_drewN ?_ _ | refine blk_drew ?_ | refine blk_alloc ?_ _)); refine blk_put (cs := #[.int .i64 0, .int .i64 0]) ?_ 0 _ rfl; (with_reducible repeat (first | refine blk_drewN ?_ _ | refine blk_drew ?_ | refine blk_alloc ?_ _)); exact BK285.out⟩
       have n3_ : Aside0 (Below w.heap.size w ((w13.setCell ⟨gb285, 0, none⟩ (.int .i64 ((rd_T70 l0 x13_1).f0))).setCell ⟨gb285, 1, none⟩ (.int .i64 ((rd_T70 l0 x13_1).f1)))) := ⟨by repeat (first | (with_reducible first | exact HB.out | apply below_alloc | apply pw_below_drewN | apply below_drew1 | refine below_set ?_ GE20.out | refine below_set ?_ GE285.out) | exact HB.out)⟩
       (try clear HO_5)
       (try clear BK20)
       (try clear BK285)
       (try clear HB)
       generalize ((w13.setCell ⟨gb285, 0, none⟩ (.int .i64 ((rd_T70 l0 x13_1).f0))).setCell ⟨gb285, 1, none⟩ (.int .i64 ((rd_T70 l0 x13_1).f1))) = w16 at n0_ n1_ n2_ n3_ ⊢
       have HO_5 := n0_
       have BK20 := n1_
       have BK285 := n2_
       have HB := n3_
       clear n0_ n1_ n2_ n3_
       have n0_ := Aside0.mk (Kd.R_drew HO_5.out)
       have n1_ := Aside0.mk (blk_drew BK20.out)
       have n2_ := Aside0.mk (blk_drew BK285.out)
       have n3_ := Aside0.mk (below_drew1 HB.out)
       clear HO_5
       clear BK20
       clear BK285
       clear HB
       have HO_5 := n0_
       have BK20 := n1_
       have BK285 := n2_
       have HB := n3_
       clear n0_ n1_ n2_ n3_
       refine start_ (n := 10) (S := fun w' => w'.cell? ⟨gb285, 0, none⟩ = some (.int .i64 ((rd_T70 l0 x13_1).f0)) ∧ w'.cell? ⟨gb285, 1, none⟩ = some (.int .i64 ((rd_T70 l0 x13_1).f1))) (ds := []) #[false, false, false, false, false, false, false, false, false, false] (by kernel_rfl) rfl rfl ⟨(blk_cell BK285.out 0).trans rfl, (blk_cell BK285.out 1).trans rfl⟩ (fun hHeld => ?_); refine with_tabW impl_renamed_s5.tab5 impl_renamed_s5.bits5 (fun HT_ HW_ => ?_)
       generalize w16.drew = w17 at HO_5 BK20 BK285 HB hHeld ⊢
       refine pure_ (i := 0) (N := some 17) (v := ?_) (a' := ?_) #[true, false, false, false, false, false, false, false, false, false] rfl rfl (any_of HT_.out (by kernel_rfl)) (fun _ _ _ h => h) (Or.inl ⟨by rfl, ?_⟩) ?_ ?_
       rotate_left
       ·exact gw_
       rotate_left
       ·exact ap_
       refine pure_ (i := 1) (N := some 18) (v := ?_) (a' := ?_) #[true, true, false, false, false, false, false, false, false, false] rfl rfl (any_of HT_.out (by kernel_rfl)) (fun _ _ _ h => h) (Or.inl ⟨by rfl, ?_⟩) ?_ ?_
       rotate_left
       ·exact gw_
       rotate_left
       ·exact ap_
       refine pure_ (i := 4) (N := some 21) (v := ?_) (a' := ?_) #[true, true, false, false, true, false, false, false, false, false] rfl rfl (any_of HT_.out (by kernel_rfl)) (fun _ _ _ h => h) (Or.inl ⟨by rfl, ?_⟩) ?_ ?_
       rotate_left
       ·exact gw_
       rotate_left
       ·exact ap_
       refine pure_ (i := 5) (N := some 22) (v := ?_) (a' := ?_) #[true, true, false, false, true, true, false, false, false, false] rfl rfl (any_of HT_.out (by kernel_rfl)) (fun _ _ _ h => h) (Or.inl ⟨by rfl, ?_⟩) ?_ ?_
       rotate_left
       ·exact gw_
       rotate_left
       ·exact ap_
       refine take_ (i := 2) (N := some 19) (v := ?_) (a' := ?_) #[true, true, true, false, true, true, false, false, false, false] rfl rfl (take_ofW HT_.out HW_.out (by kernel_rfl)) (fun _ _ _ h => h) (Or.inl ⟨by rfl, ?_⟩) hHeld ?_ ?_
       rotate_left
       ·rintro w' ⟨s0, s1⟩
        go_simp
        with_reducible rfl
       rotate_left
       ·exact ap_
       refine take_ (i := 6) (N := some 23) (v := ?_) (a' := ?_) #[true, true, true, false, true, true, true, false, false, false] rfl rfl (take_ofW HT_.out HW_.out (by kernel_rfl)) (fun _ _ _ h => h) (Or.inl ⟨by rfl, ?_⟩) hHeld ?_ ?_
       rotate_left
       ·rintro w' ⟨s0, s1⟩
        go_simp
        with_reducible rfl
       rotate_left
       ·exact ap_
       refine one_ (i := 3) (N := some 20) #[true, true, true, true, true, true, true, false, false, false] rfl rfl (one_of HT_.out (by kernel_rfl)) (by decide) (fun K hK => ?_)
       refine goesV_ (hc := by rfl) Try.func121 (by kernel_rfl) rfl #[.int .i64 ((rd_T70 l0 x13_1).f0), .pointer (some ⟨gc1_0, 0, none⟩)] (by rfl) rfl rfl amp_ ?_
       with_reducible refine (impl_mirrored_1_s6.calls ((rd_T70 l0 x13_1).f0) gc1_0 a1_0_0 t286 _ ?side1 A8.out).mono ?_
       (case side1 => (with_reducible repeat (first | refine blk_drewN ?_ _ | refine blk_drew ?_ | refine blk_alloc ?_ _)); exact BK20.out)
       rintro e w18 ⟨rfl, hb⟩
       refine ⟨_, rfl, ?_⟩
       (try replace hb := Drawn0.below hb)
       have n0_ := Aside0.mk (Kd.R_below (ra_ HO_5.out) hb)
       have n1_ := Aside0.mk (blk_below (g := gc1_0) (o := .cells #[.int .i64 a1_0_0] 3 (0, 0)) (bk_ BK20.out) hb)
       have n2_ := Aside0.mk (blk_below (g := gb285) (o := .cells #[.int .i64 ((rd_T70 l0 x13_1).f0), .int .i64 ((rd_T70 l0 x13_1).f1)] 70 (0, 0)) (bk_ BK285.out) hb)
       have n3_ := Aside0.mk (below_step (by repeat (first | (with_reducible first | exact HB.out | apply below_alloc | apply pw_below_drewN | apply below_drew1 | refine below_set ?_ GE20.out | refine below_set ?_ GE285.out) | exact HB.out)) hb)
       clear HO_5
       clear BK20
       clear BK285
       clear HB
       have HO_5 := n0_
       have BK20 := n1_
       have BK285 := n2_
       have HB := n3_
       clear n0_ n1_ n2_ n3_
       (try clear hb)
       (try clear hb2)
       (try clear hk)
       (try clear hi)
       refine hK.out _ _ ⟨(blk_cell BK285.out 0).trans rfl, (blk_cell BK285.out 1).trans rfl⟩ (fun hHeld => ?_)
       clear hK K
       refine norm_ (a' := ?_) ?_ ?_
       rotate_left
       ·show Act.put _ (some 20) _ = _
        simp only [Act.put, List.setIfInBounds_toArray, List.set_cons_zero, List.set_cons_succ, i64_w, i32_w]
        rfl
       refine one_ (i := 7) (N := some 24) #[true, true, true, true, true, true, true, true, false, false] rfl rfl (one_of HT_.out (by kernel_rfl)) (by decide) (fun K hK => ?_)
       refine goesV_ (hc := by rfl) Try.func121 (by kernel_rfl) rfl #[.int .i64 ((rd_T70 l0 x13_1).f1), .pointer (some ⟨gc1_0, 0, none⟩)] (by rfl) rfl rfl amp_ ?_
       with_reducible refine (impl_mirrored_1_s6.calls ((rd_T70 l0 x13_1).f1) gc1_0 a1_0_0 t287 _ ?side1 A9.out).mono ?_
       (case side1 => (with_reducible repeat (first | refine blk_drewN ?_ _ | refine blk_drew ?_ | refine blk_alloc ?_ _)); exact BK20.out)
       rintro e w19 ⟨rfl, hb⟩
       refine ⟨_, rfl, ?_⟩
       (try replace hb := Drawn0.below hb)
       have n0_ := Aside0.mk (Kd.R_below (ra_ HO_5.out) hb)
       have n1_ := Aside0.mk (blk_below (g := gc1_0) (o := .cells #[.int .i64 a1_0_0] 3 (0, 0)) (bk_ BK20.out) hb)
       have n2_ := Aside0.mk (blk_below (g := gb285) (o := .cells #[.int .i64 ((rd_T70 l0 x13_1).f0), .int .i64 ((rd_T70 l0 x13_1).f1)] 70 (0, 0)) (bk_ BK285.out) hb)
       have n3_ := Aside0.mk (below_step (by repeat (first | (with_reducible first | exact HB.out | apply below_alloc | apply pw_below_drewN | apply below_drew1 | refine below_set ?_ GE20.out | refine below_set ?_ GE285.out) | exact HB.out)) hb)
       clear HO_5
       clear BK20
       clear BK285
       clear HB
       have HO_5 := n0_
       have BK20 := n1_
       have BK285 := n2_
       have HB := n3_
       clear n0_ n1_ n2_ n3_
       (try clear hb)
       (try clear hb2)
       (try clear hk)
       (try clear hi)
       refine hK.out _ _ ⟨(blk_cell BK285.out 0).trans rfl, (blk_cell BK285.out 1).trans rfl⟩ (fun hHeld => ?_)
       clear hK K
       refine norm_ (a' := ?_) ?_ ?_
       rotate_left
       ·show Act.put _ (some 24) _ = _
        simp only [Act.put, List.setIfInBounds_toArray, List.set_cons_zero, List.set_cons_succ, i64_w, i32_w]
        rfl
       refine pure_ (i := 8) (N := some 8) (v := ?_) (a' := ?_) #[true, true, true, true, true, true, true, true, true, false] rfl rfl (any_of HT_.out (by kernel_rfl)) (fun _ _ _ h => h) (Or.inl ⟨by rfl, ?_⟩) ?_ ?_
       rotate_left
       ·exact gw_
       rotate_left
       ·exact ap_
       refine pure_ (i := 9) (N := some 9) (v := ?_) (a' := ?_) #[true, true, true, true, true, true, true, true, true, true] rfl rfl (any_of HT_.out (by kernel_rfl)) (fun _ _ _ h => h) (Or.inl ⟨by rfl, ?_⟩) ?_ ?_
       rotate_left
       ·exact gw_
       rotate_left
       ·exact ap_
       refine done_ (done_of HT_.out (by kernel_rfl)) ?_
       try go_wp2_with (first | ((with_reducible refine gate_builtin (b := .append) (xs := #[.tmp 25, .tmp 33]) rfl ?_); at_builtin; refine Kd.R_append k70 (w0 := w) w.heap.size rfl (.tmp 25) (.tmp 33) 40 70 (.agg #[(.int .i64 0), (.int .i64 0)]) 16 rfl Try.underlying40 info70 rfl (by decide) (by omega) u5 x5_1 (⟨ji10, ji11⟩ : S70) [.int .i64 ji10, .int .i64 ji11] (fun k_ => k_ ≠ gb285) (fun _ => False) rfl rfl ?aP (fun _ hk => hk.elim) ?aF ?aO ?aB ?aS ?aL ?_; (case aP => exact k70_mkM _ _ _ (⟨ji10, ji11⟩ : S70)); (case aB => exact (by repeat (first | (with_reducible first | exact HB.out | apply below_alloc | apply pw_below_drewN | apply below_drew1 | refine below_set ?_ GE20.out | refine below_set ?_ GE285.out) | exact HB.out))); (case aF => exact (fun k_ hk => Kd.freshB (g := gb285) (o := .cells #[.int .i64 ((rd_T70 l0 x13_1).f0), .int .i64 ((rd_T70 l0 x13_1).f1)] 70 (0, 0)) (bk_ BK285.out) k_ hk)); (case aO => exact (ra_ HO_5.out)); (case aS => exact (below_size (by repeat (first | (with_reducible first | exact HB.out | apply below_alloc | apply pw_below_drewN | apply below_drew1 | refine below_set ?_ GE20.out | refine below_set ?_ GE285.out) | exact HB.out)))); (case aL => have := LMc12.out; omega); intro v289 w20 ho hb hg hat; rw [← Ny288.out] at ho; have n0_ := Aside0.mk (blk_grown (g := gc1_0) (o := .cells #[.int .i64 a1_0_0] 3 (0, 0)) (bk_ BK20.out) hg (Kd.R_ne HO_5.out BK20.out (by decide))); have n1_ := Aside0.mk (blk_grown (g := gb285) (o := .cells #[.int .i64 ((rd_T70 l0 x13_1).f0), .int .i64 ((rd_T70 l0 x13_1).f1)] 70 (0, 0)) (bk_ BK285.out) hg (Kd.R_away HO_5.out (fun _ hk => hk))); have n2_ := Aside0.mk (hb); have n3_ := Aside0.mk (ho); clear BK20; clear BK285; clear HB; clear HO_5; have BK20 := n0_; have BK285 := n1_; have HB := n2_; have HO290 := n3_; clear n0_ n1_ n2_ n3_; clear ho hb hg hat))
       go_roundg k1
       case measure => have := HK1.out; omega
       case rel => exact ⟨(y288), (wrap64 (x13_1 + 1)), (by first | rfl | (simp; done) | (simp [*]; done)), H', ⟨by have := HK1.out; omega⟩, ⟨by (with_reducible repeat (first | apply Kd.R_alloc | apply Kd.R_drewN | apply Kd.R_drew)); exact Kd.R_mono HO290.out (fun _ hk => trivial)⟩, ⟨bk_ BK20.out⟩, ⟨by repeat (first | (with_reducible first | exact HB.out | apply below_alloc | apply pw_below_drewN | apply below_drew1 | refine below_set ?_ GE20.out | refine below_set ?_ GE285.out) | exact HB.out)⟩⟩
      ·rw [if_neg c12] at H
       exact absurd H (by simp)
     ·rw [if_neg c7] at H
      exact absurd H (by simp)
    ·rw [if_neg c6] at H
     exact absurd H (by simp)
   ·rw [if_neg c5] at H
    have c5b0 : decide (x13_1 < (l0.length : Int)) = false := decide_eq_false c5
    clear c5
    replace H := Option.bind_eq_some_iff.mp H
    obtain ⟨t291, A210, H⟩ := H
    replace H : (some t291) = some r := H
    have A21 := Aside0.mk A210
    clear A210
    obtain rfl := Option.some.inj H
    obtain ⟨Ao22, co22, eo22⟩ := Kd.R_slice HO_5.out
    subst eo22
    go_wp2_with (first | ((with_reducible refine gate_callee (f := 103) rfl ?_); refine goesL_ (some 37) rfl rfl Try.func103 (by kernel_rfl) rfl #[.slice Ao22 x5_1.length co22, .func (.func 104) #[] #[]] rfl amp_ ?_; (with_reducible refine (impl_Diagonal_103_s3.calls k1 (fun k_ => some k_ = (.slice Ao22 x5_1.length co22 : Value).ownBlock) (.slice Ao22 x5_1.length co22) x5_1  t291 w _ ?side1 ?side2 A21.out).mono ?_); (case side1 => repeat (first | (with_reducible first | exact HB.out | apply below_alloc | apply pw_below_drewN | apply below_drew1 | refine below_set ?_ GE20.out) | exact HB.out)); (case side2 => exact Kd.R_tight rfl HO_5.out); rintro e w23 ⟨rfl, hy0, hb, hkp⟩; refine ⟨_, rfl, ?_⟩; have n0_ := Aside0.mk (Kd.R_reok rfl hy0 (fun k_ e_ => HO_5.out.1 k_ e_)); have n1_ := Aside0.mk (blk_kept (bk_ BK20.out) hkp (fun hs_ => (fun e_ => (Kd.R_ne HO_5.out BK20.out (by decide)) e_) hs_)); have n2_ := Aside0.mk (hb); clear HO_5; clear BK20; clear HB; have HO_5 := n0_; have BK20 := n1_; have HB := n2_; clear n0_ n1_ n2_; (try clear hb); (try clear hkp); (try clear hy0)))
    go_ret
    exact ⟨_, by first | rfl | (simp [errW_none, errW_some] <;> rfl) | (simp [*, errW_none, errW_some] <;> rfl), by (with_reducible repeat (first | apply Kd.R_alloc | apply Kd.R_drewN | apply Kd.R_drew)); exact HO_5.out, by repeat (first | (with_reducible first | exact HB.out | apply below_alloc | apply pw_below_drewN | apply below_drew1 | refine below_set ?_ GE20.out) | exact HB.out)⟩

/-! ### impl_mirrored: function 83 -/
def impl_mirrored.f (k : Nat) (a0 : Int) (l1 : List (S70)) : Option ((List (S70))) := (impl_renamed_s5.f k l1 a0).bind fun t293 => (some t293)
theorem impl_mirrored.mono : ∀ a0 a1 k, LeO (impl_mirrored.f k a0 a1) (impl_mirrored.f (k + 1) a0 a1) := by
 intro a0 a1 k
 unfold impl_mirrored.f
 repeat' first
   | (with_reducible exact impl_renamed_s5.mono _ _ _)
   | (with_reducible exact LeO.refl _)
   | (with_reducible exact LeO.none _)
   | (with_reducible refine LeO.ite ?_ ?_)
   | (with_reducible refine LeO.bind ?_ (fun _ => ?_))
   | exact impl_renamed_s5.mono _ _ _
   | exact LeO.none _
   | refine LeO.ite ?_ ?_
   | refine LeO.bind ?_ (fun _ => ?_)
set_option maxHeartbeats 8000000 in
set_option maxRecDepth 100000 in
theorem impl_mirrored.calls (k : Nat) (a0 : Int) (A1 : Option Addr) (c1 : Nat) (l1 : List (S70)) (r : List (S70)) (w : World) (hr1 : Kd.C k70 w A1 l1.length l1) (hc1 : l1.length ≤ c1) (h : impl_mirrored.f k a0 l1 = some r) :
  Calls Try.prog 83 #[.int .i64 a0, .slice A1 l1.length c1] w fun e w' => ∃ v0_ : Value, e = .returned (v0_) ∧ Kd.R k70 70 w' w.heap.size (fun _ => True) v0_ r ∧ Below w.heap.size w w' := by
 have HR1 := Aside0.mk hr1
 have HC1 := Aside0.mk hc1
 clear hr1 hc1
 have HB := Aside0.mk (Below.refl w.heap.size w)
 have H : ((impl_renamed_s5.f k l1 a0).bind fun t293 => (some t293)) = some r := h
 clear h
 replace H := Option.bind_eq_some_iff.mp H
 obtain ⟨t293, A30, H⟩ := H
 replace H : (some t293) = some r := H
 have A3 := Aside0.mk A30
 clear A30
 obtain rfl := Option.some.inj H
 go_enter Try.func83, Try.ntmps83
 go_wp2_with (first | ((with_reducible refine gate_dst (N := 2) rfl ?_); refine box_event ?hg (N := 2) ?hd (cs := #[.int .i64 a0]) (t := 3) ?hr ?_; (case hd => rfl); (case hg => rfl); (case hr => first | (go_simp; done) | (go_simp; rfl)); intro gb292 hg w4 hbox hb; have n0_ := Aside0.mk (below_step blw_ hb); have n1_ := Aside0.mk (hbox); have n2_ := Aside0.mk ((by rw [hg]; exact (below_size blw_) : w.heap.size ≤ gb292)); have n3_ := Aside0.mk ((by rw [hg]; exact (below_size blw_) : w.heap.size ≤ gb292)); clear HB; have HB := n0_; have BK292 := n1_; have GW292 := n2_; have GE292 := n3_; clear n0_ n1_ n2_ n3_; clear hb hbox hg) | ((with_reducible refine gate_callee (f := 120) rfl ?_); refine goesL_ (some 7) rfl rfl Try.func120 (by kernel_rfl) rfl #[.slice A1 l1.length c1, .func (.func 121) #[] #[.pointer (some ⟨gb292, 0, none⟩)]] rfl amp_ ?_; (with_reducible refine (impl_renamed_s5.calls k _ _ l1 gb292 a0 t293 _ ?side1 ?side2 ?side3 A3.out).mono ?_); (case side1 => repeat (first | exact (Kd.C_below HR1.out HB.out) | (with_reducible refine Kd.C_alloc ?_ _) | (with_reducible refine Kd.C_drewN ?_ _) | (with_reducible refine Kd.C_drew ?_))); (case side2 => exact HC1.out); (case side3 => (with_reducible repeat (first | refine blk_drewN ?_ _ | refine blk_drew ?_ | refine blk_alloc ?_ _)); exact BK292.out); rintro e w5 ⟨v294, rfl, ho0, hb⟩; refine ⟨_, rfl, ?_⟩; have n0_ := Aside0.mk (Kd.R_lower ho0 (below_size (by repeat (first | (with_reducible first | exact HB.out | apply below_alloc | apply pw_below_drewN | apply below_drew1 | refine below_set ?_ GE292.out) | exact HB.out)))); have n1_ := Aside0.mk (blk_below (g := gb292) (o := .cells #[.int .i64 a0] 3 (0, 0)) (bk_ BK292.out) hb); have n2_ := Aside0.mk (below_step (by repeat (first | (with_reducible first | exact HB.out | apply below_alloc | apply pw_below_drewN | apply below_drew1 | refine below_set ?_ GE292.out) | exact HB.out)) hb); clear BK292; clear HB; have HO295 := n0_; have BK292 := n1_; have HB := n2_; clear n0_ n1_ n2_; (try clear hb); (try clear hb2); (try clear hk); (try clear hi); (try clear ho0)))
 go_ret
 exact ⟨_, by first | rfl | (simp [errW_none, errW_some] <;> rfl) | (simp [*, errW_none, errW_some] <;> rfl), by (with_reducible repeat (first | apply Kd.R_alloc | apply Kd.R_drewN | apply Kd.R_drew)); exact HO295.out, by repeat (first | (with_reducible first | exact HB.out | apply below_alloc | apply pw_below_drewN | apply below_drew1 | refine below_set ?_ GE292.out) | exact HB.out)⟩

/-! ### impl_leastOfClass: function 79 -/
def impl_leastOfClass.f (k : Nat) (a0 : Int) (l1 : List (S70)) : Option ((List (S70))) := (impl_leastTurned.f k a0 l1).bind fun t296 => ((impl_mirrored.f k a0 l1).bind fun t299 => ((impl_leastTurned.f k a0 t299).bind fun t302 => ((impl_compareLists.f k t302 t296).bind fun t305 => (if t305 < 0 then (some t302) else (some t296)))))
theorem impl_leastOfClass.mono : ∀ a0 a1 k, LeO (impl_leastOfClass.f k a0 a1) (impl_leastOfClass.f (k + 1) a0 a1) := by
 intro a0 a1 k
 unfold impl_leastOfClass.f
 repeat' first
   | (with_reducible exact impl_compareLists.mono _ _ _)
   | (with_reducible exact impl_leastTurned.mono _ _ _)
   | (with_reducible exact impl_mirrored.mono _ _ _)
   | (with_reducible exact LeO.refl _)
   | (with_reducible exact LeO.none _)
   | (with_reducible refine LeO.ite ?_ ?_)
   | (with_reducible refine LeO.bind ?_ (fun _ => ?_))
   | exact impl_compareLists.mono _ _ _
   | exact impl_leastTurned.mono _ _ _
   | exact impl_mirrored.mono _ _ _
   | exact LeO.none _
   | refine LeO.ite ?_ ?_
   | refine LeO.bind ?_ (fun _ => ?_)
set_option maxHeartbeats 8000000 in
set_option maxRecDepth 100000 in
theorem impl_leastOfClass.calls (k : Nat) (a0 : Int) (A1 : Option Addr) (c1 : Nat) (l1 : List (S70)) (r : List (S70)) (w : World) (hr1 : Kd.C k70 w A1 l1.length l1) (hc1 : l1.length ≤ c1) (h : impl_leastOfClass.f k a0 l1 = some r) :
  Calls Try.prog 79 #[.int .i64 a0, .slice A1 l1.length c1] w fun e w' => ∃ v0_ : Value, e = .returned (v0_) ∧ Kd.R k70 70 w' w.heap.size (fun _ => True) v0_ r ∧ Below w.heap.size w w' := by
 have HR1 := Aside0.mk hr1
 have HC1 := Aside0.mk hc1
 clear hr1 hc1
 have HB := Aside0.mk (Below.refl w.heap.size w)
 have H : ((impl_leastTurned.f k a0 l1).bind fun t296 => ((impl_mirrored.f k a0 l1).bind fun t299 => ((impl_leastTurned.f k a0 t299).bind fun t302 => ((impl_compareLists.f k t302 t296).bind fun t305 => (if t305 < 0 then (some t302) else (some t296)))))) = some r := h
 clear h
 replace H := Option.bind_eq_some_iff.mp H
 obtain ⟨t296, A30, H⟩ := H
 replace H : ((impl_mirrored.f k a0 l1).bind fun t299 => ((impl_leastTurned.f k a0 t299).bind fun t302 => ((impl_compareLists.f k t302 t296).bind fun t305 => (if t305 < 0 then (some t302) else (some t296))))) = some r := H
 have A3 := Aside0.mk A30
 clear A30
 replace H := Option.bind_eq_some_iff.mp H
 obtain ⟨t299, A40, H⟩ := H
 replace H : ((impl_leastTurned.f k a0 t299).bind fun t302 => ((impl_compareLists.f k t302 t296).bind fun t305 => (if t305 < 0 then (some t302) else (some t296)))) = some r := H
 have A4 := Aside0.mk A40
 clear A40
 replace H := Option.bind_eq_some_iff.mp H
 obtain ⟨t302, A50, H⟩ := H
 replace H : ((impl_compareLists.f k t302 t296).bind fun t305 => (if t305 < 0 then (some t302) else (some t296))) = some r := H
 have A5 := Aside0.mk A50
 clear A50
 replace H := Option.bind_eq_some_iff.mp H
 obtain ⟨t305, A60, H⟩ := H
 replace H : (if t305 < 0 then (some t302) else (some t296)) = some r := H
 have A6 := Aside0.mk A60
 clear A60
 by_cases c7 : t305 < 0
 ·rw [if_pos c7] at H
  have c7b0 : decide (t305 < 0) = true := decide_eq_true c7
  clear c7
  obtain rfl := Option.some.inj H
  go_enter Try.func79, Try.ntmps79
  go_wp2_with (first | ((with_reducible refine gate_callee (f := 77) rfl ?_); refine goesL_ (some 9) rfl rfl Try.func77 (by kernel_rfl) rfl #[.int .i64 a0, .slice A1 l1.length c1] rfl amp_ ?_; (with_reducible refine (impl_leastTurned.calls k a0 _ _ l1 t296 _ ?side1 ?side2 A3.out).mono ?_); (case side1 => repeat (first | exact HR1.out | (with_reducible refine Kd.C_alloc ?_ _) | (with_reducible refine Kd.C_drewN ?_ _) | (with_reducible refine Kd.C_drew ?_))); (case side2 => exact HC1.out); rintro e w8 ⟨v297, rfl, ho0, hb⟩; refine ⟨_, rfl, ?_⟩; have n0_ := Aside0.mk (Kd.R_lower ho0 (below_size blw_)); have n1_ := Aside0.mk (below_step blw_ hb); clear HB; have HO298 := n0_; have HB := n1_; clear n0_ n1_; (try clear hb); (try clear hb2); (try clear hk); (try clear hi); (try clear ho0)) | ((with_reducible refine gate_callee (f := 83) rfl ?_); refine goesL_ (some 13) rfl rfl Try.func83 (by kernel_rfl) rfl #[.int .i64 a0, .slice A1 l1.length c1] rfl amp_ ?_; (with_reducible refine (impl_mirrored.calls k a0 _ _ l1 t299 _ ?side1 ?side2 A4.out).mono ?_); (case side1 => repeat (first | exact (Kd.C_below HR1.out HB.out) | (with_reducible refine Kd.C_alloc ?_ _) | (with_reducible refine Kd.C_drewN ?_ _) | (with_reducible refine Kd.C_drew ?_))); (case side2 => exact HC1.out); rintro e w9 ⟨v300, rfl, ho0, hb⟩; refine ⟨_, rfl, ?_⟩; have n0_ := Aside0.mk (Kd.R_elder' (ra_ HO298.out) (Kd.R_base ho0) hb); have n1_ := Aside0.mk (Kd.R_lower (Kd.R_new' ho0 (Kd.R_lt (ra_ HO298.out))) (below_size blw_)); have n2_ := Aside0.mk (below_step blw_ hb); clear HO298; clear HB; have HO298 := n0_; have HO301 := n1_; have HB := n2_; clear n0_ n1_ n2_; (try clear hb); (try clear hb2); (try clear hk); (try clear hi); (try clear ho0); obtain ⟨Ao10, co10, eo10⟩ := Kd.R_slice HO301.out; subst eo10) | ((with_reducible refine gate_callee (f := 77) rfl ?_); refine goesL_ (some 14) rfl rfl Try.func77 (by kernel_rfl) rfl #[.int .i64 a0, .slice Ao10 t299.length co10] rfl amp_ ?_; (with_reducible refine (impl_leastTurned.calls k a0 _ _ t299 t302 _ ?side1 ?side2 A5.out).mono ?_); (case side1 => repeat (first | exact (Kd.R_reads' HO301.out).2.2 | (with_reducible refine Kd.C_alloc ?_ _) | (with_reducible refine Kd.C_drewN ?_ _) | (with_reducible refine Kd.C_drew ?_))); (case side2 => exact (Kd.R_reads' HO301.out).2.1); rintro e w11 ⟨v303, rfl, ho0, hb⟩; refine ⟨_, rfl, ?_⟩; have n0_ := Aside0.mk (Kd.R_elder' (ra_ HO298.out) (Kd.R_base ho0) hb); have n1_ := Aside0.mk (Kd.R_elder' (ra_ HO301.out) (Kd.R_base ho0) hb); have n2_ := Aside0.mk (Kd.R_lower (Kd.R_new' (Kd.R_new' ho0 (Kd.R_lt (ra_ HO298.out))) (Kd.R_lt (ra_ HO301.out))) (below_size blw_)); have n3_ := Aside0.mk (below_step blw_ hb); clear HO298; clear HO301; clear HB; have HO298 := n0_; have HO301 := n1_; have HO304 := n2_; have HB := n3_; clear n0_ n1_ n2_ n3_; (try clear hb); (try clear hb2); (try clear hk); (try clear hi); (try clear ho0); obtain ⟨Ao12, co12, eo12⟩ := Kd.R_slice HO304.out; subst eo12; obtain ⟨Ao13, co13, eo13⟩ := Kd.R_slice HO298.out; subst eo13) | ((with_reducible refine gate_callee (f := 118) rfl ?_); refine goesL_ (some 17) rfl rfl Try.func118 (by kernel_rfl) rfl #[.slice Ao12 t302.length co12, .slice Ao13 t296.length co13] rfl amp_ ?_; (with_reducible refine (impl_compareLists.calls k _ _ t302 _ _ t296 t305 _ ?side1 ?side2 ?side3 ?side4 A6.out).mono ?_); (case side1 => repeat (first | exact (Kd.R_reads' HO304.out).2.2 | (with_reducible refine Kd.C_alloc ?_ _) | (with_reducible refine Kd.C_drewN ?_ _) | (with_reducible refine Kd.C_drew ?_))); (case side2 => exact (Kd.R_reads' HO304.out).2.1); (case side3 => repeat (first | exact (Kd.R_reads' HO298.out).2.2 | (with_reducible refine Kd.C_alloc ?_ _) | (with_reducible refine Kd.C_drewN ?_ _) | (with_reducible refine Kd.C_drew ?_))); (case side4 => exact (Kd.R_reads' HO298.out).2.1); rintro e w14 ⟨rfl, hb⟩; refine ⟨_, rfl, ?_⟩; have n0_ := Aside0.mk (Kd.R_below (ra_ HO298.out) hb); have n1_ := Aside0.mk (Kd.R_below (ra_ HO301.out) hb); have n2_ := Aside0.mk (Kd.R_below (ra_ HO304.out) hb); have n3_ := Aside0.mk (below_step blw_ hb); clear HO298; clear HO301; clear HO304; clear HB; have HO298 := n0_; have HO301 := n1_; have HO304 := n2_; have HB := n3_; clear n0_ n1_ n2_ n3_; (try clear hb); (try clear hb2); (try clear hk); (try clear hi)))
  go_ret
  exact ⟨_, by first | rfl | (simp [errW_none, errW_some] <;> rfl) | (simp [*, errW_none, errW_some] <;> rfl), by (with_reducible repeat (first | apply Kd.R_alloc | apply Kd.R_drewN | apply Kd.R_drew)); exact Kd.R_mono HO304.out (fun _ hk => trivial), by repeat (first | (with_reducible first | exact HB.out | apply below_alloc | apply pw_below_drewN | apply below_drew1) | exact HB.out)⟩
 ·rw [if_neg c7] at H
  have c7b0 : decide (t305 < 0) = false := decide_eq_false c7
  clear c7
  obtain rfl := Option.some.inj H
  go_enter Try.func79, Try.ntmps79
  go_wp2_with (first | ((with_reducible refine gate_callee (f := 77) rfl ?_); refine goesL_ (some 9) rfl rfl Try.func77 (by kernel_rfl) rfl #[.int .i64 a0, .slice A1 l1.length c1] rfl amp_ ?_; (with_reducible refine (impl_leastTurned.calls k a0 _ _ l1 t296 _ ?side1 ?side2 A3.out).mono ?_); (case side1 => repeat (first | exact HR1.out | (with_reducible refine Kd.C_alloc ?_ _) | (with_reducible refine Kd.C_drewN ?_ _) | (with_reducible refine Kd.C_drew ?_))); (case side2 => exact HC1.out); rintro e w15 ⟨v297, rfl, ho0, hb⟩; refine ⟨_, rfl, ?_⟩; have n0_ := Aside0.mk (Kd.R_lower ho0 (below_size blw_)); have n1_ := Aside0.mk (below_step blw_ hb); clear HB; have HO298 := n0_; have HB := n1_; clear n0_ n1_; (try clear hb); (try clear hb2); (try clear hk); (try clear hi); (try clear ho0)) | ((with_reducible refine gate_callee (f := 83) rfl ?_); refine goesL_ (some 13) rfl rfl Try.func83 (by kernel_rfl) rfl #[.int .i64 a0, .slice A1 l1.length c1] rfl amp_ ?_; (with_reducible refine (impl_mirrored.calls k a0 _ _ l1 t299 _ ?side1 ?side2 A4.out).mono ?_); (case side1 => repeat (first | exact (Kd.C_below HR1.out HB.out) | (with_reducible refine Kd.C_alloc ?_ _) | (with_reducible refine Kd.C_drewN ?_ _) | (with_reducible refine Kd.C_drew ?_))); (case side2 => exact HC1.out); rintro e w16 ⟨v300, rfl, ho0, hb⟩; refine ⟨_, rfl, ?_⟩; have n0_ := Aside0.mk (Kd.R_elder' (ra_ HO298.out) (Kd.R_base ho0) hb); have n1_ := Aside0.mk (Kd.R_lower (Kd.R_new' ho0 (Kd.R_lt (ra_ HO298.out))) (below_size blw_)); have n2_ := Aside0.mk (below_step blw_ hb); clear HO298; clear HB; have HO298 := n0_; have HO301 := n1_; have HB := n2_; clear n0_ n1_ n2_; (try clear hb); (try clear hb2); (try clear hk); (try clear hi); (try clear ho0); obtain ⟨Ao17, co17, eo17⟩ := Kd.R_slice HO301.out; subst eo17) | ((with_reducible refine gate_callee (f := 77) rfl ?_); refine goesL_ (some 14) rfl rfl Try.func77 (by kernel_rfl) rfl #[.int .i64 a0, .slice Ao17 t299.length co17] rfl amp_ ?_; (with_reducible refine (impl_leastTurned.calls k a0 _ _ t299 t302 _ ?side1 ?side2 A5.out).mono ?_); (case side1 => repeat (first | exact (Kd.R_reads' HO301.out).2.2 | (with_reducible refine Kd.C_alloc ?_ _) | (with_reducible refine Kd.C_drewN ?_ _) | (with_reducible refine Kd.C_drew ?_))); (case side2 => exact (Kd.R_reads' HO301.out).2.1); rintro e w18 ⟨v303, rfl, ho0, hb⟩; refine ⟨_, rfl, ?_⟩; have n0_ := Aside0.mk (Kd.R_elder' (ra_ HO298.out) (Kd.R_base ho0) hb); have n1_ := Aside0.mk (Kd.R_elder' (ra_ HO301.out) (Kd.R_base ho0) hb); have n2_ := Aside0.mk (Kd.R_lower (Kd.R_new' (Kd.R_new' ho0 (Kd.R_lt (ra_ HO298.out))) (Kd.R_lt (ra_ HO301.out))) (below_size blw_)); have n3_ := Aside0.mk (below_step blw_ hb); clear HO298; clear HO301; clear HB; have HO298 := n0_; have HO301 := n1_; have HO304 := n2_; have HB := n3_; clear n0_ n1_ n2_ n3_; (try clear hb); (try clear hb2); (try clear hk); (try clear hi); (try clear ho0); obtain ⟨Ao19, co19, eo19⟩ := Kd.R_slice HO304.out; subst eo19; obtain ⟨Ao20, co20, eo20⟩ := Kd.R_slice HO298.out; subst eo20) | ((with_reducible refine gate_callee (f := 118) rfl ?_); refine goesL_ (some 17) rfl rfl Try.func118 (by kernel_rfl) rfl #[.slice Ao19 t302.length co19, .slice Ao20 t296.length co20] rfl amp_ ?_; (with_reducible refine (impl_compareLists.calls k _ _ t302 _ _ t296 t305 _ ?side1 ?side2 ?side3 ?side4 A6.out).mono ?_); (case side1 => repeat (first | exact (Kd.R_reads' HO304.out).2.2 | (with_reducible refine Kd.C_alloc ?_ _) | (with_reducible refine Kd.C_drewN ?_ _) | (with_reducible refine Kd.C_drew ?_))); (case side2 => exact (Kd.R_reads' HO304.out).2.1); (case side3 => repeat (first | exact (Kd.R_reads' HO298.out).2.2 | (with_reducible refine Kd.C_alloc ?_ _) | (with_reducible refine Kd.C_drewN ?_ _) | (with_reducible refine Kd.C_drew ?_))); (case side4 => exact (Kd.R_reads' HO298.out).2.1); rintro e w21 ⟨rfl, hb⟩; refine ⟨_, rfl, ?_⟩; have n0_ := Aside0.mk (Kd.R_below (ra_ HO298.out) hb); have n1_ := Aside0.mk (Kd.R_below (ra_ HO301.out) hb); have n2_ := Aside0.mk (Kd.R_below (ra_ HO304.out) hb); have n3_ := Aside0.mk (below_step blw_ hb); clear HO298; clear HO301; clear HO304; clear HB; have HO298 := n0_; have HO301 := n1_; have HO304 := n2_; have HB := n3_; clear n0_ n1_ n2_ n3_; (try clear hb); (try clear hb2); (try clear hk); (try clear hi)))
  go_ret
  exact ⟨_, by first | rfl | (simp [errW_none, errW_some] <;> rfl) | (simp [*, errW_none, errW_some] <;> rfl), by (with_reducible repeat (first | apply Kd.R_alloc | apply Kd.R_drewN | apply Kd.R_drew)); exact Kd.R_mono HO298.out (fun _ hk => trivial), by repeat (first | (with_reducible first | exact HB.out | apply below_alloc | apply pw_below_drewN | apply below_drew1) | exact HB.out)⟩

/-! ### impl_isListedPolygon: function 86 -/
def impl_isListedPolygon.f (a0 : Int) : Option (Bool) := (impl_within.f a0 3 8).bind fun t306 => (some t306)
set_option maxHeartbeats 8000000 in
set_option maxRecDepth 100000 in
theorem impl_isListedPolygon.calls (a0 : Int) (r : Bool) (w : World) (h : impl_isListedPolygon.f a0 = some r) :
  Calls Try.prog 86 #[.int .i64 a0] w fun e w' => e = .returned (.bool r) ∧ Drawn0 w w' := by
 have H : ((impl_within.f a0 3 8).bind fun t306 => (some t306)) = some r := h
 clear h
 replace H := Option.bind_eq_some_iff.mp H
 obtain ⟨t306, A20, H⟩ := H
 replace H : (some t306) = some r := H
 have A2 := Aside0.mk A20
 clear A20
 obtain rfl := Option.some.inj H
 go_enter Try.func86, Try.ntmps86
 go_wp2_with (first | ((with_reducible refine gate_callee (f := 90) rfl ?_); refine goesL_ (some 4) rfl rfl Try.func90 (by kernel_rfl) rfl #[.int .i64 a0, .int .i64 3, .int .i64 8] rfl amp_ ?_; (with_reducible refine (impl_within.calls a0 3 8 t306 _ A2.out).mono ?_); rintro e w' ⟨rfl, ⟨nd, rfl⟩⟩; refine ⟨_, rfl, ?_⟩))
 go_ret
 exact ⟨by first | rfl | (simp; done) | (simp [*]; done), by repeat (first | exact Drawn0.refl _ | apply Drawn0.step)⟩

/-! ### impl_CountClasses: function 52 -/



/-- Is it the first one? -/
def impl_CountClasses.keep (k : Nat) (n : Int) (x : List S70) : Option Bool := (impl_leastOfClass.f k n x).bind fun y => impl_Diagonal_82.f k y x
theorem impl_CountClasses.keep_mono (k : Nat) (n : Int) (x : List S70) : LeO (impl_CountClasses.keep k n x) (impl_CountClasses.keep (k + 1) n x) := LeO.bind (impl_leastOfClass.mono _ _ _) (fun _ => impl_Diagonal_82.mono _ _ _)
def impl_CountClasses.f (k : Nat) (a0 : Int) : Option (Int × Bool) := (impl_isListedPolygon.f a0).bind fun b => if b = true then ((impl_allTriangulations.f k a0).bind fun ts => (leastF (impl_CountClasses.keep k a0) ts).bind fun l => some ((l.length : Int), true)) else some (0, false)
theorem impl_CountClasses.mono : ∀ a0 k, LeO (impl_CountClasses.f k a0) (impl_CountClasses.f (k + 1) a0) := by
 intro a0 k
 unfold impl_CountClasses.f
 exact LeO.bind (LeO.refl _) (fun _ => LeO.ite (LeO.bind (impl_allTriangulations.mono _ _) (fun _ => LeO.bind (leastF_mono (fun _ => impl_CountClasses.keep_mono _ _ _) _) (fun _ => LeO.refl _))) (LeO.refl _))
set_option maxHeartbeats 4000000 in
set_option maxRecDepth 100000 in
theorem impl_CountClasses.calls (k : Nat) (a0 : Int) (r1 : Int) (r2 : Bool) (w : World) (h : impl_CountClasses.f k a0 = some (r1, r2)) :
  Calls Try.prog 52 #[.int .i64 a0] w fun e w' => e = .returned (.tuple #[.int .i64 r1, .bool r2]) ∧ Below w.heap.size w w' := by
 have H : ((impl_isListedPolygon.f a0).bind fun b => if b = true then ((impl_allTriangulations.f k a0).bind fun ts => (leastF (impl_CountClasses.keep k a0) ts).bind fun l => some ((l.length : Int), true)) else some (0, false)) = some (r1, r2) := h
 clear h
 obtain ⟨b, hb, H⟩ := Option.bind_eq_some_iff.mp H
 cases b with
 | false =>
  rw [if_neg (by simp)] at H
  injection H with H
  injection H with e1 e2
  subst e1; subst e2
  have HT := Aside0.mk hb
  clear hb
  go_enter Try.func52, Try.ntmps52
  go_wp2_with (go_at_call 86; refine (impl_isListedPolygon.calls a0 false _ HT.out).mono ?_; rintro e w5 ⟨rfl, hb⟩; have HB2 := Aside0.mk (show Below w.heap.size w w5 from by first | exact hb | exact Drawn0.below hb); clear hb)
  go_ret2
  exact ⟨rfl, HB2.out⟩
 | true =>
  rw [if_pos rfl] at H
  obtain ⟨ts, ht, H⟩ := Option.bind_eq_some_iff.mp H
  obtain ⟨l, hl, H⟩ := Option.bind_eq_some_iff.mp H
  injection H with H
  injection H with e1 e2
  subst e1; subst e2
  obtain ⟨hall, rfl⟩ := leastF_some hl
  have hkey : ∀ W : World, Calls Try.prog 87 #[.int .i64 a0, .func (.func 79) #[] #[]] W fun e w' => ∃ v0_ : Value, e = .returned v0_ ∧ Kd.S (Kd.slice 70 k70) 40 w' W.heap.size (fun _ => True) v0_ (ts.filter fun x => (impl_CountClasses.keep k a0 x).getD false) ∧ Below W.heap.size W w' := by
   intro W
   refine least_calls k a0 ts (impl_CountClasses.keep k a0) 79 #[] W ht hall ?_
   intro W2 go gn A c x b _ hk hgo hgn _ hC hc
   obtain ⟨y, hy, he⟩ := Option.bind_eq_some_iff.mp hk
   exact leastLit_calls k a0 x y b 79 #[] (enters_of Try.func79 (by kernel_rfl) rfl) W2 go gn A c hgo hgn hC hc (impl_leastOfClass.calls k a0 A c x y W2 hC hc hy) he
  have HT := Aside0.mk hb
  have HK := Aside0.mk hkey
  clear hb ht hall hkey hl
  go_enter Try.func52, Try.ntmps52
  go_wp2_with (first
   | (go_at_call 86; refine (impl_isListedPolygon.calls a0 true _ HT.out).mono ?_; rintro e w5 ⟨rfl, hb⟩; have HB2 := Aside0.mk (show Below w.heap.size w w5 from by first | exact hb | exact Drawn0.below hb); clear hb)
   | (go_at_call 87; refine (HK.out _).mono ?_; rintro e w8 ⟨v8, rfl, ho8, hb8⟩; obtain ⟨A8, c8, rfl⟩ := Kd.S_slice ho8; have HB8 := Aside0.mk hb8; clear ho8 hb8))
  go_ret2
  exact ⟨rfl, below_then HB2.out (below_size HB2.out) HB8.out⟩

/-! ### laws_FnExactCountClasses: function 13 -/
def laws_FnExactCountClasses.f (k : Nat) (a0 : Int) : Option (Bool) := (spec_CountClasses.f k a0).bind fun bt307 => ((impl_CountClasses.f k a0).bind fun bt309 => (if bt309.1 = bt307.1 then (if (bt309.2 != bt307.2) = true then (some false) else (some true)) else (some false)))
theorem laws_FnExactCountClasses.mono : ∀ a0 k, LeO (laws_FnExactCountClasses.f k a0) (laws_FnExactCountClasses.f (k + 1) a0) := by
 intro a0 k
 unfold laws_FnExactCountClasses.f
 repeat' first
   | (with_reducible exact impl_CountClasses.mono _ _)
   | (with_reducible exact spec_CountClasses.mono _ _)
   | (with_reducible exact LeO.refl _)
   | (with_reducible exact LeO.none _)
   | (with_reducible refine LeO.ite ?_ ?_)
   | (with_reducible refine LeO.bind ?_ (fun _ => ?_))
   | exact impl_CountClasses.mono _ _
   | exact spec_CountClasses.mono _ _
   | exact LeO.none _
   | refine LeO.ite ?_ ?_
   | refine LeO.bind ?_ (fun _ => ?_)
set_option maxHeartbeats 8000000 in
set_option maxRecDepth 100000 in
theorem laws_FnExactCountClasses.calls (k : Nat) (a0 : Int) (r : Bool) (w : World) (h : laws_FnExactCountClasses.f k a0 = some r) (htrue : Aside0 (r = true) := by exact ⟨rfl⟩) :
  Calls Try.prog 13 #[.int .i64 a0] w fun e w' => e = .returned (.bool r) ∧ Below w.heap.size w w' := by
 have HB := Aside0.mk (Below.refl w.heap.size w)
 have H : ((spec_CountClasses.f k a0).bind fun bt307 => ((impl_CountClasses.f k a0).bind fun bt309 => (if bt309.1 = bt307.1 then (if (bt309.2 != bt307.2) = true then (some false) else (some true)) else (some false)))) = some r := h
 clear h
 replace H := Option.bind_eq_some_iff.mp H
 obtain ⟨⟨t307, t308⟩, A20, H⟩ := H
 replace H : ((impl_CountClasses.f k a0).bind fun bt309 => (if bt309.1 = t307 then (if (bt309.2 != t308) = true then (some false) else (some true)) else (some false))) = some r := H
 have A2 := Aside0.mk A20
 clear A20
 replace H := Option.bind_eq_some_iff.mp H
 obtain ⟨⟨t309, t310⟩, A30, H⟩ := H
 replace H : (if t309 = t307 then (if (t310 != t308) = true then (some false) else (some true)) else (some false)) = some r := H
 have A3 := Aside0.mk A30
 clear A30
 by_cases c4 : t309 = t307
 ·rw [if_pos c4] at H
  have c4b0 : (t309 == t307) = true := beq_iff_eq.mpr c4
  have c4b1 : (t309 != t307) = false := bne_eq_false_iff_eq.mpr c4
  clear c4
  by_cases c5 : (t310 != t308) = true
  ·rw [if_pos c5] at H
   have c5b0 : (t310 != t308) = true := c5
   (try (have c5b1 : decide (t310 = t308) = false := by simpa using c5))
   (try (have c5b2 : (t310 == t308) = false := by simpa using c5))
   (try (have c5b3 : ¬ (t310 = t308) := by simpa using c5))
   clear c5
   exact absurd (H.trans (congrArg some htrue.out)) (by decide)
  ·rw [if_neg c5] at H
   have c5b0 : (t310 != t308) = false := by simpa using c5
   (try (have c5b1 : decide (t310 = t308) = true := by simpa using c5))
   (try (have c5b2 : (t310 == t308) = true := by simpa using c5))
   clear c5
   obtain rfl := Option.some.inj H
   go_enter Try.func13, Try.ntmps13
   go_wp2_with (first | ((with_reducible refine gate_callee (f := 51) rfl ?_); refine goesL_ (some 9) rfl rfl Try.func51 (by kernel_rfl) rfl #[.int .i64 a0] rfl amp_ ?_; (with_reducible refine (spec_CountClasses.calls k a0 t307 t308 _ A2.out).mono ?_); rintro e w6 ⟨rfl, hb⟩; refine ⟨_, rfl, ?_⟩; have n0_ := Aside0.mk (below_step blw_ hb); clear HB; have HB := n0_; clear n0_; (try clear hb); (try clear hb2); (try clear hk); (try clear hi)) | ((with_reducible refine gate_callee (f := 52) rfl ?_); refine goesL_ (some 14) rfl rfl Try.func52 (by kernel_rfl) rfl #[.int .i64 a0] rfl amp_ ?_; (with_reducible refine (impl_CountClasses.calls k a0 t309 t310 _ A3.out).mono ?_); rintro e w7 ⟨rfl, hb⟩; refine ⟨_, rfl, ?_⟩; have n0_ := Aside0.mk (below_step blw_ hb); clear HB; have HB := n0_; clear n0_; (try clear hb); (try clear hb2); (try clear hk); (try clear hi)))
   go_ret
   exact ⟨by first | rfl | (simp [errW_none, errW_some] <;> rfl) | (simp [*, errW_none, errW_some] <;> rfl), by repeat (first | (with_reducible first | exact HB.out | apply below_alloc | apply pw_below_drewN | apply below_drew1) | exact HB.out)⟩
 ·rw [if_neg c4] at H
  have c4b0 : (t309 == t307) = false := beq_eq_false_iff_ne.mpr c4
  have c4b1 : (t309 != t307) = true := bne_iff_ne.mpr c4
  exact absurd (H.trans (congrArg some htrue.out)) (by decide)

/-- THE ONE PURE STATEMENT of laws_FnExactCountClasses: yours. -/
def laws_FnExactCountClasses.Pure : Prop := ∀ (a0 : Int), (Lit.int .i64 a0).wf = true → ∃ k, laws_FnExactCountClasses.f k a0 = some true
theorem laws_FnExactCountClasses.walk (P : laws_FnExactCountClasses.Pure) (a0 : Int) (w : World) (w0 : (Lit.int .i64 a0).wf = true) :
  Calls Try.prog 13 #[.int .i64 a0] w fun e w' => e = .returned (.bool true) ∧ Below w.heap.size w w' := by
 obtain ⟨k, h⟩ := P a0 w0
 refine (laws_FnExactCountClasses.calls k a0 true w h).mono ?_
 rintro e w' ⟨rfl, hd⟩
 exact ⟨rfl, hd⟩

end Go.Proofs.Ytnjejmfnacpdoaa.PFnExactCountClasses
