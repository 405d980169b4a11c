-- WRITTEN BY A PROGRAM OF THIS WORK (wip/tools/ppatch.py) for this claim.
import Derived.Test.YtkipgbakoljaeaaPFnExactAreFlipApartx0
import Derived.Test.YtkipgbakoljaeaaPFnExactAreFlipApartx2
import Derived.Test.YtkipgbakoljaeaaPFnExactAreFlipApartx7
import Derived.Test.YtkipgbakoljaeaaPFnExactAreFlipApartx12
import Derived.Test.YtkipgbakoljaeaaPFnExactAreFlipApartx14
namespace Go.Proofs.Ytkipgbakoljaeaa.PFnExactAreFlipApart
open Go.RowKit Go.Proofs.YtkipgbakoljaeaaW.PrintWords Go.Proofs.YtkipgbakoljaeaaW.PrintLast Go.Proofs.YtkipgbakoljaeaaW.PrintMore
attribute [local go_sem] max2_int min2_int max_two min_two max_three min_three max_four min_four   -- for this text's walks alone
set_option linter.unusedVariables false
set_option linter.unusedSimpArgs false

/-! ### impl_areBoth: function 82 -/
def impl_areBoth.f (k : Nat) (a0 : Int) (l1 : List (S36)) (l2 : List (S36)) : Option (Bool) := (impl_IsTriangulation.f k a0 l1).bind fun t314 => (if t314 = true then ((impl_IsTriangulation.f k a0 l2).bind fun t315 => (some t315)) else (some false))
theorem impl_areBoth.mono : ∀ a0 a1 a2 k, LeO (impl_areBoth.f k a0 a1 a2) (impl_areBoth.f (k + 1) a0 a1 a2) := by
 intro a0 a1 a2 k
 unfold impl_areBoth.f
 repeat' first
   | (with_reducible exact impl_IsTriangulation.mono _ _ _)
   | (with_reducible exact LeO.refl _)
   | (with_reducible exact LeO.none _)
   | (with_reducible refine LeO.ite ?_ ?_)
   | (with_reducible refine LeO.bind ?_ (fun _ => ?_))
   | exact impl_IsTriangulation.mono _ _ _
   | exact LeO.none _
   | refine LeO.ite ?_ ?_
   | refine LeO.bind ?_ (fun _ => ?_)
set_option maxHeartbeats 8000000 in
set_option maxRecDepth 100000 in
theorem impl_areBoth.calls (k : Nat) (a0 : Int) (A1 : Option Addr) (c1 : Nat) (l1 : List (S36)) (A2 : Option Addr) (c2 : Nat) (l2 : List (S36)) (r : Bool) (w : World) (hr1 : Kd.C k36 w A1 l1.length l1) (hc1 : l1.length ≤ c1) (hr2 : Kd.C k36 w A2 l2.length l2) (hc2 : l2.length ≤ c2) (h : impl_areBoth.f k a0 l1 l2 = some r) :
  Calls Try.prog 82 #[.int .i64 a0, .slice A1 l1.length c1, .slice A2 l2.length c2] w fun e w' => e = .returned (.bool r) ∧ Below w.heap.size w w' := by
 have HR1 := Aside0.mk hr1
 have HC1 := Aside0.mk hc1
 clear hr1 hc1
 have HR2 := Aside0.mk hr2
 have HC2 := Aside0.mk hc2
 clear hr2 hc2
 have HB := Aside0.mk (Below.refl w.heap.size w)
 have H : ((impl_IsTriangulation.f k a0 l1).bind fun t314 => (if t314 = true then ((impl_IsTriangulation.f k a0 l2).bind fun t315 => (some t315)) else (some false))) = some r := h
 clear h
 replace H := Option.bind_eq_some_iff.mp H
 obtain ⟨t314, A40, H⟩ := H
 replace H : (if t314 = true then ((impl_IsTriangulation.f k a0 l2).bind fun t315 => (some t315)) else (some false)) = some r := H
 have A4 := Aside0.mk A40
 clear A40
 by_cases c5 : t314 = true
 ·subst c5
  have H1 : ((impl_IsTriangulation.f k a0 l2).bind fun t315 => (some t315)) = some r := by rw [if_pos rfl] at H; exact H
  clear H
  have H := H1
  clear H1
  replace H := Option.bind_eq_some_iff.mp H
  obtain ⟨t315, A60, H⟩ := H
  replace H : (some t315) = some r := H
  have A6 := Aside0.mk A60
  clear A60
  obtain rfl := Option.some.inj H
  go_enter Try.func82, Try.ntmps82
  go_wp2_with (first | ((with_reducible refine gate_callee (f := 62) rfl ?_); refine goesL_ (some 9) rfl rfl Try.func62 (by kernel_rfl) rfl #[.int .i64 a0, .slice A1 l1.length c1] rfl amp_ ?_; (with_reducible refine (impl_IsTriangulation.calls k a0 _ _ l1 true _ ?side1 ?side2 A4.out).mono ?_); (case side1 => repeat (first | exact HR1.out | (with_reducible refine Kd.C_alloc ?_ _) | (with_reducible refine Kd.C_drewN ?_ _) | (with_reducible refine Kd.C_drew ?_))); (case side2 => exact HC1.out); rintro e w7 ⟨rfl, hb⟩; refine ⟨_, rfl, ?_⟩; have n0_ := Aside0.mk (below_step blw_ hb); clear HB; have HB := n0_; clear n0_; (try clear hb); (try clear hb2); (try clear hk); (try clear hi)) | (go_at_call 62; (with_reducible refine (impl_IsTriangulation.calls k a0 _ _ l2 t315 _ ?side1 ?side2 A6.out).mono ?_); (case side1 => repeat (first | exact (Kd.C_below HR2.out HB.out) | (with_reducible refine Kd.C_alloc ?_ _) | (with_reducible refine Kd.C_drewN ?_ _) | (with_reducible refine Kd.C_drew ?_))); (case side2 => exact HC2.out); rintro e w8 ⟨rfl, hb⟩; have n0_ := Aside0.mk (below_step blw_ hb); clear HB; have HB := n0_; clear n0_; (try clear hb); (try clear hb2); (try clear hk); (try clear hi)))
  go_ret
  exact ⟨by first | rfl | (simp [errW_none, errW_some] <;> rfl) | (simp [*, errW_none, errW_some] <;> rfl), by repeat (first | (with_reducible first | exact HB.out | apply below_alloc | apply pw_below_drewN | apply below_drew1) | exact HB.out)⟩
 ·replace c5 := Bool.eq_false_iff.mpr c5
  subst c5
  have H1 : (some false) = some r := by rw [if_neg (show ¬ (false = true) by decide)] at H; exact H
  clear H
  have H := H1
  clear H1
  obtain rfl := Option.some.inj H
  go_enter Try.func82, Try.ntmps82
  go_wp2_with (first | ((with_reducible refine gate_callee (f := 62) rfl ?_); refine goesL_ (some 9) rfl rfl Try.func62 (by kernel_rfl) rfl #[.int .i64 a0, .slice A1 l1.length c1] rfl amp_ ?_; (with_reducible refine (impl_IsTriangulation.calls k a0 _ _ l1 false _ ?side1 ?side2 A4.out).mono ?_); (case side1 => repeat (first | exact HR1.out | (with_reducible refine Kd.C_alloc ?_ _) | (with_reducible refine Kd.C_drewN ?_ _) | (with_reducible refine Kd.C_drew ?_))); (case side2 => exact HC1.out); rintro e w9 ⟨rfl, hb⟩; refine ⟨_, rfl, ?_⟩; have n0_ := Aside0.mk (below_step blw_ hb); clear HB; have HB := n0_; clear n0_; (try clear hb); (try clear hb2); (try clear hk); (try clear hi)))
  go_ret
  exact ⟨by first | rfl | (simp [errW_none, errW_some] <;> rfl) | (simp [*, errW_none, errW_some] <;> rfl), by repeat (first | (with_reducible first | exact HB.out | apply below_alloc | apply pw_below_drewN | apply below_drew1) | exact HB.out)⟩

/-! ### impl_AreFlipApart: function 40 -/
def impl_AreFlipApart.l0 : Nat → Int → List (S36) → List (S36) → List (S36) → Int → Int → Option (Int × Int × Bool)
 | 0, _, _, _, _, _, _ => none
 | k + 1, x0, x1, x2, x16, x17, x18 => if x18 < x17 then (if 0 ≤ x18 then (if x18 < (x16.length : Int) then ((impl_flipped.f k x0 x1 ((rd_T36 x16 x18).f0) ((rd_T36 x16 x18).f1)).bind fun t320 => ((impl_Diagonal_65.f k t320 x2).bind fun t323 => (if t323 = true then (some ((rd_T36 x16 x18).f0, (rd_T36 x16 x18).f1, true)) else (impl_AreFlipApart.l0 k x0 x1 x2 x16 x17 (wrap64 (x18 + 1)))))) else (none)) else (none)) else (some (0, 0, false))
def impl_AreFlipApart.f (k : Nat) (a0 : Int) (l1 : List (S36)) (l2 : List (S36)) : Option (Int × Int × Bool) := (impl_areBoth.f k a0 l1 l2).bind fun t317 => (if t317 = true then (impl_AreFlipApart.l0 k a0 l1 l2 l1 (l1.length : Int) 0) else (some (0, 0, false)))
theorem impl_AreFlipApart.mono_l : ∀ k, (∀ y0 y1 y2 y3 y4 y5, LeO (impl_AreFlipApart.l0 k y0 y1 y2 y3 y4 y5) (impl_AreFlipApart.l0 (k + 1) y0 y1 y2 y3 y4 y5))
 | 0 => fun _ _ _ _ _ _ r h => by simp [impl_AreFlipApart.l0] at h
 | k + 1 => by
  have ih0 := impl_AreFlipApart.mono_l k
  ·intro y0 y1 y2 y3 y4 y5
   unfold impl_AreFlipApart.l0
   repeat' first
   | (with_reducible exact ih0 _ _ _ _ _ _)
   | (with_reducible exact impl_Diagonal_65.mono _ _ _)
   | (with_reducible exact impl_areBoth.mono _ _ _ _)
   | (with_reducible exact impl_flipped.mono _ _ _ _ _)
   | (with_reducible exact LeO.refl _)
   | (with_reducible exact LeO.none _)
   | (with_reducible refine LeO.ite ?_ ?_)
   | (with_reducible refine LeO.bind ?_ (fun _ => ?_))
   | exact ih0 _ _ _ _ _ _
   | exact impl_Diagonal_65.mono _ _ _
   | exact impl_areBoth.mono _ _ _ _
   | exact impl_flipped.mono _ _ _ _ _
   | exact LeO.none _
   | refine LeO.ite ?_ ?_
   | refine LeO.bind ?_ (fun _ => ?_)
theorem impl_AreFlipApart.mono : ∀ a0 a1 a2 k, LeO (impl_AreFlipApart.f k a0 a1 a2) (impl_AreFlipApart.f (k + 1) a0 a1 a2) := by
 intro a0 a1 a2 k
 have ih0 := impl_AreFlipApart.mono_l k
 unfold impl_AreFlipApart.f
 repeat' first
   | (with_reducible exact ih0 _ _ _ _ _ _)
   | (with_reducible exact impl_Diagonal_65.mono _ _ _)
   | (with_reducible exact impl_areBoth.mono _ _ _ _)
   | (with_reducible exact impl_flipped.mono _ _ _ _ _)
   | (with_reducible exact LeO.refl _)
   | (with_reducible exact LeO.none _)
   | (with_reducible refine LeO.ite ?_ ?_)
   | (with_reducible refine LeO.bind ?_ (fun _ => ?_))
   | exact ih0 _ _ _ _ _ _
   | exact impl_Diagonal_65.mono _ _ _
   | exact impl_areBoth.mono _ _ _ _
   | exact impl_flipped.mono _ _ _ _ _
   | exact LeO.none _
   | refine LeO.ite ?_ ?_
   | refine LeO.bind ?_ (fun _ => ?_)
set_option maxHeartbeats 8000000 in
set_option maxRecDepth 100000 in
theorem impl_AreFlipApart.calls (k : Nat) (a0 : Int) (A1 : Option Addr) (c1 : Nat) (l1 : List (S36)) (A2 : Option Addr) (c2 : Nat) (l2 : List (S36)) (r1 : Int) (r2 : Int) (r3 : Bool) (w : World) (hr1 : Kd.C k36 w A1 l1.length l1) (hc1 : l1.length ≤ c1) (hr2 : Kd.C k36 w A2 l2.length l2) (hc2 : l2.length ≤ c2) (h : impl_AreFlipApart.f k a0 l1 l2 = some (r1, r2, r3)) :
  Calls Try.prog 40 #[.int .i64 a0, .slice A1 l1.length c1, .slice A2 l2.length c2] w fun e w' => e = .returned (.tuple #[.agg #[.int .i64 r1, .int .i64 r2], .bool r3]) ∧ Below w.heap.size w w' := by
 have hu36 := Try.underlying36
 have HR1 := Aside0.mk hr1
 have HC1 := Aside0.mk hc1
 clear hr1 hc1
 have HR2 := Aside0.mk hr2
 have HC2 := Aside0.mk hc2
 clear hr2 hc2
 have HB := Aside0.mk (Below.refl w.heap.size w)
 have H : ((impl_areBoth.f k a0 l1 l2).bind fun t317 => (if t317 = true then (impl_AreFlipApart.l0 k a0 l1 l2 l1 (l1.length : Int) 0) else (some (0, 0, false)))) = some (r1, r2, r3) := h
 clear h
 replace H := Option.bind_eq_some_iff.mp H
 obtain ⟨t317, A40, H⟩ := H
 replace H : (if t317 = true then (impl_AreFlipApart.l0 k a0 l1 l2 l1 (l1.length : Int) 0) else (some (0, 0, false))) = some (r1, r2, r3) := H
 have A4 := Aside0.mk A40
 clear A40
 by_cases c5 : t317 = true
 ·subst c5
  have H1 : (impl_AreFlipApart.l0 k a0 l1 l2 l1 (l1.length : Int) 0) = some (r1, r2, r3) := by rw [if_pos rfl] at H; exact H
  clear H
  have H := H1
  clear H1
  have H' := Aside0.mk H
  clear H
  go_enter Try.func40, Try.ntmps40
  go_wp2_with (first | ((with_reducible refine gate_dst (N := 6) rfl ?_); refine box_event ?hg (N := 6) ?hd (cs := #[.int .i64 0, .int .i64 0]) (t := 36) ?hr ?_; (case hd => rfl); (case hg => rfl); (case hr => first | (go_simp; done) | (go_simp; rfl)); intro gb316 hg w6 hbox hb; have n0_ := Aside0.mk (below_step blw_ hb); have n1_ := Aside0.mk (hbox); have n2_ := Aside0.mk ((by rw [hg]; exact (below_size blw_) : w.heap.size ≤ gb316)); have n3_ := Aside0.mk ((by rw [hg]; exact (below_size blw_) : w.heap.size ≤ gb316)); clear HB; have HB := n0_; have BK316 := n1_; have GW316 := n2_; have GE316 := n3_; clear n0_ n1_ n2_ n3_; clear hb hbox hg) | ((with_reducible refine gate_callee (f := 82) rfl ?_); refine goesL_ (some 13) rfl rfl Try.func82 (by kernel_rfl) rfl #[.int .i64 a0, .slice A1 l1.length c1, .slice A2 l2.length c2] rfl amp_ ?_; (with_reducible refine (impl_areBoth.calls k a0 _ _ l1 _ _ l2 true _ ?side1 ?side2 ?side3 ?side4 A4.out).mono ?_); (case side1 => repeat (first | exact (Kd.C_below HR1.out HB.out) | (with_reducible refine Kd.C_alloc ?_ _) | (with_reducible refine Kd.C_drewN ?_ _) | (with_reducible refine Kd.C_drew ?_))); (case side2 => exact HC1.out); (case side3 => repeat (first | exact (Kd.C_below HR2.out HB.out) | (with_reducible refine Kd.C_alloc ?_ _) | (with_reducible refine Kd.C_drewN ?_ _) | (with_reducible refine Kd.C_drew ?_))); (case side4 => exact HC2.out); rintro e w7 ⟨rfl, hb⟩; refine ⟨_, rfl, ?_⟩; have n0_ := Aside0.mk (blk_below (g := gb316) (o := .cells #[.int .i64 0, .int .i64 0] 36 (0, 0)) (bk_ BK316.out) hb); have n1_ := Aside0.mk (below_step (by repeat (first | (with_reducible first | exact HB.out | apply below_alloc | apply pw_below_drewN | apply below_drew1 | refine below_set ?_ GE316.out) | exact HB.out)) hb); clear BK316; clear HB; have BK316 := n0_; have HB := n1_; clear n0_ n1_; (try clear hb); (try clear hb2); (try clear hk); (try clear hi)))
  go_loopg [18] k (fun kq v18 w' => ∃ (x18_1 : Int) (x317000_1 : Int) (x317001_1 : Int), v18 = .int .i64 x18_1 ∧ Aside0 (impl_AreFlipApart.l0 kq a0 l1 l2 l1 (l1.length : Int) x18_1 = some (r1, r2, r3)) ∧ Aside0 (kq ≤ k) ∧ Aside0 (w'.heap[gb316]? = some (.cells #[.int .i64 x317000_1, .int .i64 x317001_1] 36 (0, 0))) ∧ Aside0 (Below w.heap.size w w'))
  case atStart => exact ⟨(0), (0), (0), (by first | rfl | (simp; done) | (simp [*]; done)), H', ⟨Nat.le_refl _⟩, ⟨bk_ BK316.out⟩, ⟨by repeat (first | (with_reducible first | exact HB.out | apply below_alloc | apply pw_below_drewN | apply below_drew1 | refine below_set ?_ GE316.out) | exact HB.out)⟩⟩
  case round =>
   clear H'
   try clear c1
   try clear c2
   try clear p2
   try clear c4
   try clear c5
   obtain ⟨x18_1, x317000_1, x317001_1, rfl, HA, HK1, BK316, HB⟩ := hrel
   cases gk with
   | zero => exact absurd HA.out (by simp [impl_AreFlipApart.l0])
   | succ k1 =>
    have H := HA.out
    clear HA
    simp only [impl_AreFlipApart.l0] at H
    by_cases c8 : x18_1 < (l1.length : Int)
    ·rw [if_pos c8] at H
     have c8b0 : decide (x18_1 < (l1.length : Int)) = true := decide_eq_true c8
     clear c8
     by_cases c9 : 0 ≤ x18_1
     ·rw [if_pos c9] at H
      have c9b0 : decide (0 ≤ x18_1) = true := decide_eq_true c9
      clear c9
      by_cases c10 : x18_1 < (l1.length : Int)
      ·rw [if_pos c10] at H
       have c10b0 : decide (x18_1 < (l1.length : Int)) = true := decide_eq_true c10
       clear c10
       replace H := Option.bind_eq_some_iff.mp H
       obtain ⟨t320, A110, H⟩ := H
       replace H : ((impl_Diagonal_65.f k1 t320 l2).bind fun t323 => (if t323 = true then (some ((rd_T36 l1 x18_1).f0, (rd_T36 l1 x18_1).f1, true)) else (impl_AreFlipApart.l0 k1 a0 l1 l2 l1 (l1.length : Int) (wrap64 (x18_1 + 1))))) = some (r1, r2, r3) := H
       have A11 := Aside0.mk A110
       clear A110
       replace H := Option.bind_eq_some_iff.mp H
       obtain ⟨t323, A120, H⟩ := H
       replace H : (if t323 = true then (some ((rd_T36 l1 x18_1).f0, (rd_T36 l1 x18_1).f1, true)) else (impl_AreFlipApart.l0 k1 a0 l1 l2 l1 (l1.length : Int) (wrap64 (x18_1 + 1)))) = some (r1, r2, r3) := H
       have A12 := Aside0.mk A120
       clear A120
       by_cases c13 : t323 = true
       ·subst c13
        have H1 : (some ((rd_T36 l1 x18_1).f0, (rd_T36 l1 x18_1).f1, true)) = some (r1, r2, r3) := by rw [if_pos rfl] at H; exact H
        clear H
        have H := H1
        clear H1
        simp only [Option.some.injEq, Prod.mk.injEq] at H
        obtain ⟨rfl, rfl, rfl⟩ := H
        have p318 : 0 ≤ (x18_1 : Int) := odt_
        have q318 : x18_1 < (l1.length : Int) := odt_
        obtain ⟨ad318, e318, hx318_0, hx318_1⟩ := at_T36 HR1.out x18_1 p318 q318
        cases e318
        (first | replace hx318_0 := (HB.out.cell (World.block_lt_of_cell? w _ hx318_0)).trans hx318_0 | skip)
        (first | replace hx318_1 := (HB.out.cell (World.block_lt_of_cell? w _ hx318_1)).trans hx318_1 | skip)
        replace p318 := eq_true p318
        replace q318 := eq_true q318
        go_wp2_with (first | ((with_reducible refine gate_dst (N := 9) rfl ?_); refine box_event ?hg (N := 9) ?hd (cs := #[.int .i64 0, .int .i64 0]) (t := 36) ?hr ?_; (case hd => rfl); (case hg => rfl); (case hr => first | (go_simp; done) | (go_simp; rfl)); intro gb319 hg w14 hbox hb; have n0_ := Aside0.mk (blk_below (g := gb316) (o := .cells #[.int .i64 x317000_1, .int .i64 x317001_1] 36 (0, 0)) (bk_ BK316.out) hb); have n1_ := Aside0.mk (below_step (by repeat (first | (with_reducible first | exact HB.out | apply below_alloc | apply pw_below_drewN | apply below_drew1 | refine below_set ?_ GE316.out) | exact HB.out)) hb); have n2_ := Aside0.mk (hbox); have n3_ := Aside0.mk ((by rw [hg]; exact (below_size (by repeat (first | (with_reducible first | exact HB.out | apply below_alloc | apply pw_below_drewN | apply below_drew1 | refine below_set ?_ GE316.out) | exact HB.out))) : w.heap.size ≤ gb319)); have n4_ := Aside0.mk ((by rw [hg]; exact (below_size (by repeat (first | (with_reducible first | exact HB.out | apply below_alloc | apply pw_below_drewN | apply below_drew1 | refine below_set ?_ GE316.out) | exact HB.out))) : w.heap.size ≤ gb319)); have n5_ := Aside0.mk ((by rw [hg]; exact Nat.ne_of_lt (blk_lt (g := gb316) (o := .cells #[.int .i64 x317000_1, .int .i64 x317001_1] 36 (0, 0)) (bk_ BK316.out)) : gb316 ≠ gb319)); have n6_ := Aside0.mk ((by rw [hg]; exact Nat.ne_of_gt (blk_lt (g := gb316) (o := .cells #[.int .i64 x317000_1, .int .i64 x317001_1] 36 (0, 0)) (bk_ BK316.out)) : gb319 ≠ gb316)); clear BK316; clear HB; have BK316 := n0_; have HB := n1_; have BK319 := n2_; have GW319 := n3_; have GE319 := n4_; have NB316_319 := n5_; have NB319_316 := n6_; clear n0_ n1_ n2_ n3_ n4_ n5_ n6_; clear hb hbox hg; have hnb15 := NB319_316.out; have hnc15 := NB316_319.out; have hcz16_0 : w14.cell? ⟨gb319, 0, none⟩ = some (.int .i64 0) := (blk_cell BK319.out 0).trans rfl; have hcz16_1 : w14.cell? ⟨gb319, 1, none⟩ = some (.int .i64 0) := (blk_cell BK319.out 1).trans rfl; have hfz16_0 := blk_frozen BK319.out 0; have hfz16_1 := blk_frozen BK319.out 1) | ((with_reducible refine gate_callee (f := 80) rfl ?_); refine goesL_ (some 25) rfl rfl Try.func80 (by kernel_rfl) rfl #[.int .i64 a0, .slice (some ad318) l1.length c1, .agg #[.int .i64 ((rd_T36 l1 x18_1).f0), .int .i64 ((rd_T36 l1 x18_1).f1)]] rfl amp_ ?_; (with_reducible refine (impl_flipped.calls k1 a0 _ _ l1 ((rd_T36 l1 x18_1).f0) ((rd_T36 l1 x18_1).f1) t320 _ ?side1 ?side2 A11.out).mono ?_); (case side1 => exact Kd.C_below HR1.out (by repeat (first | (with_reducible first | exact HB.out | apply below_alloc | apply pw_below_drewN | apply below_drew1 | refine below_set ?_ GE316.out | refine below_set ?_ GE319.out) | exact HB.out))); (case side2 => exact HC1.out); rintro e w17 ⟨v321, rfl, ho0, hb⟩; refine ⟨_, rfl, ?_⟩; have n0_ := Aside0.mk (Kd.R_lower (Kd.R_newB (Kd.R_newB ho0 (g := gb316) (o := .cells #[.int .i64 x317000_1, .int .i64 x317001_1] 36 (0, 0)) (by (with_reducible repeat (first | refine blk_drewN ?_ _ | refine blk_drew ?_ | refine blk_alloc ?_ _)); refine blk_far ?_ NB316_319.out _; (with_reducible repeat (first | refine blk_drewN ?_ _ | refine blk_drew ?_ | refine blk_alloc ?_ _)); refine blk_far ?_ NB316_319.out _; (with_reducible repeat (first | refine blk_drewN ?_ _ | refine blk_drew ?_ | refine blk_alloc ?_ _)); exact BK316.out)) (g := gb319) (o := .cells #[.int .i64 ((rd_T36 l1 x18_1).f0), .int .i64 ((rd_T36 l1 x18_1).f1)] 36 (0, 0)) (by (with_reducible repeat (first | refine blk_drewN ?_ _ | refine blk_drew ?_ | refine blk_alloc ?_ _)); refine blk_put (cs := #[.int .i64 ((rd_T36 l1 x18_1).f0), .int .i64 0]) ?_ 1 _ rfl; (with_reducible repeat (first | refine blk_drewN ?_ _ | refine blk_drew ?_ | refine blk_alloc ?_ _)); refine blk_put (cs := #[.int .i64 0, .int .i64 0]) ?_ 0 _ rfl; (with_reducible repeat (first | refine blk_drewN ?_ _ | refine blk_drew ?_ | refine blk_alloc ?_ _)); exact BK319.out)) (below_size (by repeat (first | (with_reducible first | exact HB.out | apply below_alloc | apply pw_below_drewN | apply below_drew1 | refine below_set ?_ GE316.out | refine below_set ?_ GE319.out) | exact HB.out)))); have n1_ := Aside0.mk (blk_below (g := gb316) (o := .cells #[.int .i64 x317000_1, .int .i64 x317001_1] 36 (0, 0)) (by (with_reducible repeat (first | refine blk_drewN ?_ _ | refine blk_drew ?_ | refine blk_alloc ?_ _)); refine blk_far ?_ NB316_319.out _; (with_reducible repeat (first | refine blk_drewN ?_ _ | refine blk_drew ?_ | refine blk_alloc ?_ _)); refine blk_far ?_ NB316_319.out _; (with_reducible repeat (first | refine blk_drewN ?_ _ | refine blk_drew ?_ | refine blk_alloc ?_ _)); exact BK316.out) hb); have n2_ := Aside0.mk (blk_below (g := gb319) (o := .cells #[.int .i64 ((rd_T36 l1 x18_1).f0), .int .i64 ((rd_T36 l1 x18_1).f1)] 36 (0, 0)) (by (with_reducible repeat (first | refine blk_drewN ?_ _ | refine blk_drew ?_ | refine blk_alloc ?_ _)); refine blk_put (cs := #[.int .i64 ((rd_T36 l1 x18_1).f0), .int .i64 0]) ?_ 1 _ rfl; (with_reducible repeat (first | refine blk_drewN ?_ _ | refine blk_drew ?_ | refine blk_alloc ?_ _)); refine blk_put (cs := #[.int .i64 0, .int .i64 0]) ?_ 0 _ rfl; (with_reducible repeat (first | refine blk_drewN ?_ _ | refine blk_drew ?_ | refine blk_alloc ?_ _)); exact BK319.out) hb); have n3_ := Aside0.mk (below_step (by repeat (first | (with_reducible first | exact HB.out | apply below_alloc | apply pw_below_drewN | apply below_drew1 | refine below_set ?_ GE316.out | refine below_set ?_ GE319.out) | exact HB.out)) hb); clear BK316; clear BK319; clear HB; have HO322 := n0_; have BK316 := n1_; have BK319 := n2_; have HB := n3_; clear n0_ n1_ n2_ n3_; (try clear hb); (try clear hb2); (try clear hk); (try clear hi); (try clear ho0); obtain ⟨Ao18, co18, eo18⟩ := Kd.R_slice HO322.out; subst eo18) | ((with_reducible refine gate_callee (f := 65) rfl ?_); refine goesL_ (some 27) rfl rfl Try.func65 (by kernel_rfl) rfl #[.slice Ao18 t320.length co18, .slice A2 l2.length c2] rfl amp_ ?_; (with_reducible refine (impl_Diagonal_65.calls k1 _ _ t320 _ _ l2 true _ ?side1 ?side2 ?side3 ?side4 A12.out).mono ?_); (case side1 => repeat (first | exact (Kd.R_reads' HO322.out).2.2 | (with_reducible refine Kd.C_alloc ?_ _) | (with_reducible refine Kd.C_drewN ?_ _) | (with_reducible refine Kd.C_drew ?_))); (case side2 => exact (Kd.R_reads' HO322.out).2.1); (case side3 => repeat (first | exact (Kd.C_below HR2.out HB.out) | (with_reducible refine Kd.C_alloc ?_ _) | (with_reducible refine Kd.C_drewN ?_ _) | (with_reducible refine Kd.C_drew ?_))); (case side4 => exact HC2.out); rintro e w' ⟨rfl, ⟨nd, rfl⟩⟩; refine ⟨_, rfl, ?_⟩; (try (rw [drewN_self w17]; generalize hq_ : World.drewN w17 _ = w17; have n0_ : Aside0 (Kd.R k36 36 w17 w.heap.size (fun k_ => k_ ≠ gb316 ∧ k_ ≠ gb319) (.slice Ao18 t320.length co18) t320) := ⟨by rw [← hq_]; exact (by (with_reducible repeat (first | apply Kd.R_alloc | apply Kd.R_drewN | apply Kd.R_drew)); exact Kd.R_mono HO322.out (fun _ hk => ⟨hk.1.2, hk.2⟩))⟩; have n1_ : Aside0 (w17.heap[gb316]? = some (.cells #[.int .i64 x317000_1, .int .i64 x317001_1] 36 (0, 0))) := ⟨by rw [← hq_]; exact (bk_ BK316.out)⟩; have n2_ : Aside0 (w17.heap[gb319]? = some (.cells #[.int .i64 ((rd_T36 l1 x18_1).f0), .int .i64 ((rd_T36 l1 x18_1).f1)] 36 (0, 0))) := ⟨by rw [← hq_]; exact (bk_ BK319.out)⟩; have n3_ : Aside0 (Below w.heap.size w w17) := ⟨by rw [← hq_]; exact (by repeat (first | (with_reducible first | exact HB.out | apply below_alloc | apply pw_below_drewN | apply below_drew1 | refine below_set ?_ GE316.out | refine below_set ?_ GE319.out) | exact HB.out))⟩; clear HO322 BK316 BK319 HB hq_; have HO322 := n0_; have BK316 := n1_; have BK319 := n2_; have HB := n3_; clear n0_ n1_ n2_ n3_)); have hcz19_0 : w17.cell? ⟨gb319, 0, none⟩ = some (.int .i64 ((rd_T36 l1 x18_1).f0)) := (blk_cell BK319.out 0).trans rfl; have hcz19_1 : w17.cell? ⟨gb319, 1, none⟩ = some (.int .i64 ((rd_T36 l1 x18_1).f1)) := (blk_cell BK319.out 1).trans rfl; have hfz19_0 := blk_frozen BK319.out 0; have hfz19_1 := blk_frozen BK319.out 1; have hcz20_0 : w17.cell? ⟨gb316, 0, none⟩ = some (.int .i64 x317000_1) := (blk_cell BK316.out 0).trans rfl; have hcz20_1 : w17.cell? ⟨gb316, 1, none⟩ = some (.int .i64 x317001_1) := (blk_cell BK316.out 1).trans rfl; have hfz20_0 := blk_frozen BK316.out 0; have hfz20_1 := blk_frozen BK316.out 1))
        refine bodyPost_ret (results_ct rfl _ _ gb316 36 #[.int .i64 ((rd_T36 l1 x18_1).f0), .int .i64 ((rd_T36 l1 x18_1).f1)] (0, 0) _ rfl (by (with_reducible repeat (first | refine blk_drewN ?_ _ | refine blk_drew ?_ | refine blk_alloc ?_ _)); refine blk_put (cs := #[.int .i64 ((rd_T36 l1 x18_1).f0), .int .i64 x317001_1]) ?_ 1 _ rfl; (with_reducible repeat (first | refine blk_drewN ?_ _ | refine blk_drew ?_ | refine blk_alloc ?_ _)); refine blk_put (cs := #[.int .i64 x317000_1, .int .i64 x317001_1]) ?_ 0 _ rfl; (with_reducible repeat (first | refine blk_drewN ?_ _ | refine blk_drew ?_ | refine blk_alloc ?_ _)); exact BK316.out) Try.underlying36 rfl (by kernel_rfl)) rfl ?_
        exact ⟨by first | rfl | (simp [errW_none, errW_some] <;> rfl) | (simp [*, errW_none, errW_some] <;> rfl), by repeat (first | (with_reducible first | exact HB.out | apply below_alloc | apply pw_below_drewN | apply below_drew1 | refine below_set ?_ GE316.out | refine below_set ?_ GE319.out) | exact HB.out)⟩
       ·replace c13 := Bool.eq_false_iff.mpr c13
        subst c13
        have H1 : (impl_AreFlipApart.l0 k1 a0 l1 l2 l1 (l1.length : Int) (wrap64 (x18_1 + 1))) = some (r1, r2, r3) := by rw [if_neg (show ¬ (false = true) by decide)] at H; exact H
        clear H
        have H := H1
        clear H1
        have H' := Aside0.mk H
        clear H
        have p318 : 0 ≤ (x18_1 : Int) := odt_
        have q318 : x18_1 < (l1.length : Int) := odt_
        obtain ⟨ad318, e318, hx318_0, hx318_1⟩ := at_T36 HR1.out x18_1 p318 q318
        cases e318
        (first | replace hx318_0 := (HB.out.cell (World.block_lt_of_cell? w _ hx318_0)).trans hx318_0 | skip)
        (first | replace hx318_1 := (HB.out.cell (World.block_lt_of_cell? w _ hx318_1)).trans hx318_1 | skip)
        replace p318 := eq_true p318
        replace q318 := eq_true q318
        go_wp2_with (first | ((with_reducible refine gate_dst (N := 9) rfl ?_); refine box_event ?hg (N := 9) ?hd (cs := #[.int .i64 0, .int .i64 0]) (t := 36) ?hr ?_; (case hd => rfl); (case hg => rfl); (case hr => first | (go_simp; done) | (go_simp; rfl)); intro gb319 hg w21 hbox hb; have n0_ := Aside0.mk (blk_below (g := gb316) (o := .cells #[.int .i64 x317000_1, .int .i64 x317001_1] 36 (0, 0)) (bk_ BK316.out) hb); have n1_ := Aside0.mk (below_step (by repeat (first | (with_reducible first | exact HB.out | apply below_alloc | apply pw_below_drewN | apply below_drew1 | refine below_set ?_ GE316.out) | exact HB.out)) hb); have n2_ := Aside0.mk (hbox); have n3_ := Aside0.mk ((by rw [hg]; exact (below_size (by repeat (first | (with_reducible first | exact HB.out | apply below_alloc | apply pw_below_drewN | apply below_drew1 | refine below_set ?_ GE316.out) | exact HB.out))) : w.heap.size ≤ gb319)); have n4_ := Aside0.mk ((by rw [hg]; exact (below_size (by repeat (first | (with_reducible first | exact HB.out | apply below_alloc | apply pw_below_drewN | apply below_drew1 | refine below_set ?_ GE316.out) | exact HB.out))) : w.heap.size ≤ gb319)); have n5_ := Aside0.mk ((by rw [hg]; exact Nat.ne_of_lt (blk_lt (g := gb316) (o := .cells #[.int .i64 x317000_1, .int .i64 x317001_1] 36 (0, 0)) (bk_ BK316.out)) : gb316 ≠ gb319)); have n6_ := Aside0.mk ((by rw [hg]; exact Nat.ne_of_gt (blk_lt (g := gb316) (o := .cells #[.int .i64 x317000_1, .int .i64 x317001_1] 36 (0, 0)) (bk_ BK316.out)) : gb319 ≠ gb316)); clear BK316; clear HB; have BK316 := n0_; have HB := n1_; have BK319 := n2_; have GW319 := n3_; have GE319 := n4_; have NB316_319 := n5_; have NB319_316 := n6_; clear n0_ n1_ n2_ n3_ n4_ n5_ n6_; clear hb hbox hg; have hnb22 := NB319_316.out; have hnc22 := NB316_319.out; have hcz23_0 : w21.cell? ⟨gb319, 0, none⟩ = some (.int .i64 0) := (blk_cell BK319.out 0).trans rfl; have hcz23_1 : w21.cell? ⟨gb319, 1, none⟩ = some (.int .i64 0) := (blk_cell BK319.out 1).trans rfl; have hfz23_0 := blk_frozen BK319.out 0; have hfz23_1 := blk_frozen BK319.out 1) | ((with_reducible refine gate_callee (f := 80) rfl ?_); refine goesL_ (some 25) rfl rfl Try.func80 (by kernel_rfl) rfl #[.int .i64 a0, .slice (some ad318) l1.length c1, .agg #[.int .i64 ((rd_T36 l1 x18_1).f0), .int .i64 ((rd_T36 l1 x18_1).f1)]] rfl amp_ ?_; (with_reducible refine (impl_flipped.calls k1 a0 _ _ l1 ((rd_T36 l1 x18_1).f0) ((rd_T36 l1 x18_1).f1) t320 _ ?side1 ?side2 A11.out).mono ?_); (case side1 => exact Kd.C_below HR1.out (by repeat (first | (with_reducible first | exact HB.out | apply below_alloc | apply pw_below_drewN | apply below_drew1 | refine below_set ?_ GE316.out | refine below_set ?_ GE319.out) | exact HB.out))); (case side2 => exact HC1.out); rintro e w24 ⟨v321, rfl, ho0, hb⟩; refine ⟨_, rfl, ?_⟩; have n0_ := Aside0.mk (Kd.R_lower (Kd.R_newB (Kd.R_newB ho0 (g := gb316) (o := .cells #[.int .i64 x317000_1, .int .i64 x317001_1] 36 (0, 0)) (by (with_reducible repeat (first | refine blk_drewN ?_ _ | refine blk_drew ?_ | refine blk_alloc ?_ _)); refine blk_far ?_ NB316_319.out _; (with_reducible repeat (first | refine blk_drewN ?_ _ | refine blk_drew ?_ | refine blk_alloc ?_ _)); refine blk_far ?_ NB316_319.out _; (with_reducible repeat (first | refine blk_drewN ?_ _ | refine blk_drew ?_ | refine blk_alloc ?_ _)); exact BK316.out)) (g := gb319) (o := .cells #[.int .i64 ((rd_T36 l1 x18_1).f0), .int .i64 ((rd_T36 l1 x18_1).f1)] 36 (0, 0)) (by (with_reducible repeat (first | refine blk_drewN ?_ _ | refine blk_drew ?_ | refine blk_alloc ?_ _)); refine blk_put (cs := #[.int .i64 ((rd_T36 l1 x18_1).f0), .int .i64 0]) ?_ 1 _ rfl; (with_reducible repeat (first | refine blk_drewN ?_ _ | refine blk_drew ?_ | refine blk_alloc ?_ _)); refine blk_put (cs := #[.int .i64 0, .int .i64 0]) ?_ 0 _ rfl; (with_reducible repeat (first | refine blk_drewN ?_ _ | refine blk_drew ?_ | refine blk_alloc ?_ _)); exact BK319.out)) (below_size (by repeat (first | (with_reducible first | exact HB.out | apply below_alloc | apply pw_below_drewN | apply below_drew1 | refine below_set ?_ GE316.out | refine below_set ?_ GE319.out) | exact HB.out)))); have n1_ := Aside0.mk (blk_below (g := gb316) (o := .cells #[.int .i64 x317000_1, .int .i64 x317001_1] 36 (0, 0)) (by (with_reducible repeat (first | refine blk_drewN ?_ _ | refine blk_drew ?_ | refine blk_alloc ?_ _)); refine blk_far ?_ NB316_319.out _; (with_reducible repeat (first | refine blk_drewN ?_ _ | refine blk_drew ?_ | refine blk_alloc ?_ _)); refine blk_far ?_ NB316_319.out _; (with_reducible repeat (first | refine blk_drewN ?_ _ | refine blk_drew ?_ | refine blk_alloc ?_ _)); exact BK316.out) hb); have n2_ := Aside0.mk (blk_below (g := gb319) (o := .cells #[.int .i64 ((rd_T36 l1 x18_1).f0), .int .i64 ((rd_T36 l1 x18_1).f1)] 36 (0, 0)) (by (with_reducible repeat (first | refine blk_drewN ?_ _ | refine blk_drew ?_ | refine blk_alloc ?_ _)); refine blk_put (cs := #[.int .i64 ((rd_T36 l1 x18_1).f0), .int .i64 0]) ?_ 1 _ rfl; (with_reducible repeat (first | refine blk_drewN ?_ _ | refine blk_drew ?_ | refine blk_alloc ?_ _)); refine blk_put (cs := #[.int .i64 0, .int .i64 0]) ?_ 0 _ rfl; (with_reducible repeat (first | refine blk_drewN ?_ _ | refine blk_drew ?_ | refine blk_alloc ?_ _)); exact BK319.out) hb); have n3_ := Aside0.mk (below_step (by repeat (first | (with_reducible first | exact HB.out | apply below_alloc | apply pw_below_drewN | apply below_drew1 | refine below_set ?_ GE316.out | refine below_set ?_ GE319.out) | exact HB.out)) hb); clear BK316; clear BK319; clear HB; have HO322 := n0_; have BK316 := n1_; have BK319 := n2_; have HB := n3_; clear n0_ n1_ n2_ n3_; (try clear hb); (try clear hb2); (try clear hk); (try clear hi); (try clear ho0); obtain ⟨Ao25, co25, eo25⟩ := Kd.R_slice HO322.out; subst eo25) | ((with_reducible refine gate_callee (f := 65) rfl ?_); refine goesL_ (some 27) rfl rfl Try.func65 (by kernel_rfl) rfl #[.slice Ao25 t320.length co25, .slice A2 l2.length c2] rfl amp_ ?_; (with_reducible refine (impl_Diagonal_65.calls k1 _ _ t320 _ _ l2 false _ ?side1 ?side2 ?side3 ?side4 A12.out).mono ?_); (case side1 => repeat (first | exact (Kd.R_reads' HO322.out).2.2 | (with_reducible refine Kd.C_alloc ?_ _) | (with_reducible refine Kd.C_drewN ?_ _) | (with_reducible refine Kd.C_drew ?_))); (case side2 => exact (Kd.R_reads' HO322.out).2.1); (case side3 => repeat (first | exact (Kd.C_below HR2.out HB.out) | (with_reducible refine Kd.C_alloc ?_ _) | (with_reducible refine Kd.C_drewN ?_ _) | (with_reducible refine Kd.C_drew ?_))); (case side4 => exact HC2.out); rintro e w' ⟨rfl, ⟨nd, rfl⟩⟩; refine ⟨_, rfl, ?_⟩))
        go_roundg k1
        case measure => have := HK1.out; omega
        case rel => exact ⟨(wrap64 (x18_1 + 1)), (x317000_1), (x317001_1), (by first | rfl | (simp; done) | (simp [*]; done)), H', ⟨by have := HK1.out; omega⟩, ⟨bk_ BK316.out⟩, ⟨by repeat (first | (with_reducible first | exact HB.out | apply below_alloc | apply pw_below_drewN | apply below_drew1 | refine below_set ?_ GE316.out | refine below_set ?_ GE319.out) | exact HB.out)⟩⟩
      ·rw [if_neg c10] at H
       exact absurd H (by simp)
     ·rw [if_neg c9] at H
      exact absurd H (by simp)
    ·rw [if_neg c8] at H
     have c8b0 : decide (x18_1 < (l1.length : Int)) = false := decide_eq_false c8
     clear c8
     simp only [Option.some.injEq, Prod.mk.injEq] at H
     obtain ⟨rfl, rfl, rfl⟩ := H
     have hcz26_0 : wr.cell? ⟨gb316, 0, none⟩ = some (.int .i64 x317000_1) := (blk_cell BK316.out 0).trans rfl
     have hcz26_1 : wr.cell? ⟨gb316, 1, none⟩ = some (.int .i64 x317001_1) := (blk_cell BK316.out 1).trans rfl
     have hfz26_0 := blk_frozen BK316.out 0
     have hfz26_1 := blk_frozen BK316.out 1
     go_wp2
     refine bodyPost_ret (results_ct rfl _ _ gb316 36 #[.int .i64 0, .int .i64 0] (0, 0) _ rfl (by (with_reducible repeat (first | refine blk_drewN ?_ _ | refine blk_drew ?_ | refine blk_alloc ?_ _)); refine blk_put (cs := #[.int .i64 0, .int .i64 x317001_1]) ?_ 1 _ rfl; (with_reducible repeat (first | refine blk_drewN ?_ _ | refine blk_drew ?_ | refine blk_alloc ?_ _)); refine blk_put (cs := #[.int .i64 x317000_1, .int .i64 x317001_1]) ?_ 0 _ rfl; (with_reducible repeat (first | refine blk_drewN ?_ _ | refine blk_drew ?_ | refine blk_alloc ?_ _)); exact BK316.out) Try.underlying36 rfl (by kernel_rfl)) rfl ?_
     exact ⟨by first | rfl | (simp [errW_none, errW_some] <;> rfl) | (simp [*, errW_none, errW_some] <;> rfl), by repeat (first | (with_reducible first | exact HB.out | apply below_alloc | apply pw_below_drewN | apply below_drew1 | refine below_set ?_ GE316.out) | exact HB.out)⟩
 ·replace c5 := Bool.eq_false_iff.mpr c5
  subst c5
  have H1 : (some (0, 0, false)) = some (r1, r2, r3) := by rw [if_neg (show ¬ (false = true) by decide)] at H; exact H
  clear H
  have H := H1
  clear H1
  simp only [Option.some.injEq, Prod.mk.injEq] at H
  obtain ⟨rfl, rfl, rfl⟩ := H
  go_enter Try.func40, Try.ntmps40
  go_wp2_with (first | ((with_reducible refine gate_dst (N := 6) rfl ?_); refine box_event ?hg (N := 6) ?hd (cs := #[.int .i64 0, .int .i64 0]) (t := 36) ?hr ?_; (case hd => rfl); (case hg => rfl); (case hr => first | (go_simp; done) | (go_simp; rfl)); intro gb316 hg w27 hbox hb; have n0_ := Aside0.mk (below_step blw_ hb); have n1_ := Aside0.mk (hbox); have n2_ := Aside0.mk ((by rw [hg]; exact (below_size blw_) : w.heap.size ≤ gb316)); have n3_ := Aside0.mk ((by rw [hg]; exact (below_size blw_) : w.heap.size ≤ gb316)); clear HB; have HB := n0_; have BK316 := n1_; have GW316 := n2_; have GE316 := n3_; clear n0_ n1_ n2_ n3_; clear hb hbox hg) | ((with_reducible refine gate_callee (f := 82) rfl ?_); refine goesL_ (some 13) rfl rfl Try.func82 (by kernel_rfl) rfl #[.int .i64 a0, .slice A1 l1.length c1, .slice A2 l2.length c2] rfl amp_ ?_; (with_reducible refine (impl_areBoth.calls k a0 _ _ l1 _ _ l2 false _ ?side1 ?side2 ?side3 ?side4 A4.out).mono ?_); (case side1 => repeat (first | exact (Kd.C_below HR1.out HB.out) | (with_reducible refine Kd.C_alloc ?_ _) | (with_reducible refine Kd.C_drewN ?_ _) | (with_reducible refine Kd.C_drew ?_))); (case side2 => exact HC1.out); (case side3 => repeat (first | exact (Kd.C_below HR2.out HB.out) | (with_reducible refine Kd.C_alloc ?_ _) | (with_reducible refine Kd.C_drewN ?_ _) | (with_reducible refine Kd.C_drew ?_))); (case side4 => exact HC2.out); rintro e w28 ⟨rfl, hb⟩; refine ⟨_, rfl, ?_⟩; have n0_ := Aside0.mk (blk_below (g := gb316) (o := .cells #[.int .i64 0, .int .i64 0] 36 (0, 0)) (bk_ BK316.out) hb); have n1_ := Aside0.mk (below_step (by repeat (first | (with_reducible first | exact HB.out | apply below_alloc | apply pw_below_drewN | apply below_drew1 | refine below_set ?_ GE316.out) | exact HB.out)) hb); clear BK316; clear HB; have BK316 := n0_; have HB := n1_; clear n0_ n1_; (try clear hb); (try clear hb2); (try clear hk); (try clear hi); have hcz29_0 : w28.cell? ⟨gb316, 0, none⟩ = some (.int .i64 0) := (blk_cell BK316.out 0).trans rfl; have hcz29_1 : w28.cell? ⟨gb316, 1, none⟩ = some (.int .i64 0) := (blk_cell BK316.out 1).trans rfl; have hfz29_0 := blk_frozen BK316.out 0; have hfz29_1 := blk_frozen BK316.out 1))
  refine bodyPost_ret (results_ct rfl _ _ gb316 36 #[.int .i64 0, .int .i64 0] (0, 0) _ rfl (by (with_reducible repeat (first | refine blk_drewN ?_ _ | refine blk_drew ?_ | refine blk_alloc ?_ _)); refine blk_put (cs := #[.int .i64 0, .int .i64 0]) ?_ 1 _ rfl; (with_reducible repeat (first | refine blk_drewN ?_ _ | refine blk_drew ?_ | refine blk_alloc ?_ _)); refine blk_put (cs := #[.int .i64 0, .int .i64 0]) ?_ 0 _ rfl; (with_reducible repeat (first | refine blk_drewN ?_ _ | refine blk_drew ?_ | refine blk_alloc ?_ _)); exact BK316.out) Try.underlying36 rfl (by kernel_rfl)) rfl ?_
  exact ⟨by first | rfl | (simp [errW_none, errW_some] <;> rfl) | (simp [*, errW_none, errW_some] <;> rfl), by repeat (first | (with_reducible first | exact HB.out | apply below_alloc | apply pw_below_drewN | apply below_drew1 | refine below_set ?_ GE316.out) | exact HB.out)⟩

/-! ### laws_FnExactAreFlipApart: function 10 -/
def laws_FnExactAreFlipApart.j0 : Nat → List (S35) → List (S35) → List (S36) → List (S36) → Bool → Option (Bool)
 | 0, _, _, _, _, _ => none
 | k + 1, x1, x2, x10, x11, x52 => if x52 = true then (some false) else ((laws_toDiagonalS.f k x1).bind fun t347 => ((laws_eqDiagonalS.f k x10 t347).bind fun t350 => (if t350 = true then ((laws_toDiagonalS.f k x2).bind fun t351 => ((laws_eqDiagonalS.f k x11 t351).bind fun t354 => (if t354 = true then (some true) else (some false)))) else (some false))))
def laws_FnExactAreFlipApart.f (k : Nat) (a0 : Int) (l1 : List (S35)) (l2 : List (S35)) : Option (Bool) := (laws_szDiagonalS.f l1 1048576).bind fun t324 => (if t324 < 0 then (some true) else ((laws_szDiagonalS.f l2 t324).bind fun t325 => (if t325 < 0 then (some true) else ((laws_toDiagonalS.f k l1).bind fun t326 => ((laws_toDiagonalS.f k l2).bind fun t329 => ((spec_AreFlipApart.f k a0 t326 t329).bind fun bt332 => ((laws_toDiagonalS.f k l1).bind fun t336 => ((laws_toDiagonalS.f k l2).bind fun t339 => ((impl_AreFlipApart.f k a0 t336 t339).bind fun bt342 => ((laws_eqDiagonal.f bt342.1 bt342.2.1 bt332.1 bt332.2.1).bind fun t346 => (if t346 = true then (laws_FnExactAreFlipApart.j0 k l1 l2 t336 t339 (bt342.2.2 != bt332.2.2)) else (laws_FnExactAreFlipApart.j0 k l1 l2 t336 t339 true))))))))))))
theorem laws_FnExactAreFlipApart.mono_l : ∀ k, (∀ y0 y1 y2 y3 y4, LeO (laws_FnExactAreFlipApart.j0 k y0 y1 y2 y3 y4) (laws_FnExactAreFlipApart.j0 (k + 1) y0 y1 y2 y3 y4))
 | 0 => fun _ _ _ _ _ r h => by simp [laws_FnExactAreFlipApart.j0] at h
 | k + 1 => by
  have ih0 := laws_FnExactAreFlipApart.mono_l k
  ·intro y0 y1 y2 y3 y4
   unfold laws_FnExactAreFlipApart.j0
   repeat' first
   | (with_reducible exact ih0 _ _ _ _ _)
   | (with_reducible exact impl_AreFlipApart.mono _ _ _ _)
   | (with_reducible exact laws_eqDiagonalS.mono _ _ _)
   | (with_reducible exact laws_toDiagonalS.mono _ _)
   | (with_reducible exact spec_AreFlipApart.mono _ _ _ _)
   | (with_reducible exact LeO.refl _)
   | (with_reducible exact LeO.none _)
   | (with_reducible refine LeO.ite ?_ ?_)
   | (with_reducible refine LeO.bind ?_ (fun _ => ?_))
   | exact ih0 _ _ _ _ _
   | exact impl_AreFlipApart.mono _ _ _ _
   | exact laws_eqDiagonalS.mono _ _ _
   | exact laws_toDiagonalS.mono _ _
   | exact spec_AreFlipApart.mono _ _ _ _
   | exact LeO.none _
   | refine LeO.ite ?_ ?_
   | refine LeO.bind ?_ (fun _ => ?_)
theorem laws_FnExactAreFlipApart.mono : ∀ a0 a1 a2 k, LeO (laws_FnExactAreFlipApart.f k a0 a1 a2) (laws_FnExactAreFlipApart.f (k + 1) a0 a1 a2) := by
 intro a0 a1 a2 k
 have ih0 := laws_FnExactAreFlipApart.mono_l k
 unfold laws_FnExactAreFlipApart.f
 repeat' first
   | (with_reducible exact ih0 _ _ _ _ _)
   | (with_reducible exact impl_AreFlipApart.mono _ _ _ _)
   | (with_reducible exact laws_eqDiagonalS.mono _ _ _)
   | (with_reducible exact laws_toDiagonalS.mono _ _)
   | (with_reducible exact spec_AreFlipApart.mono _ _ _ _)
   | (with_reducible exact LeO.refl _)
   | (with_reducible exact LeO.none _)
   | (with_reducible refine LeO.ite ?_ ?_)
   | (with_reducible refine LeO.bind ?_ (fun _ => ?_))
   | exact ih0 _ _ _ _ _
   | exact impl_AreFlipApart.mono _ _ _ _
   | exact laws_eqDiagonalS.mono _ _ _
   | exact laws_toDiagonalS.mono _ _
   | exact spec_AreFlipApart.mono _ _ _ _
   | exact LeO.none _
   | refine LeO.ite ?_ ?_
   | refine LeO.bind ?_ (fun _ => ?_)
set_option maxHeartbeats 8000000 in
set_option maxRecDepth 100000 in
theorem laws_FnExactAreFlipApart.calls (k : Nat) (a0 : Int) (A1 : Option Addr) (c1 : Nat) (l1 : List (S35)) (A2 : Option Addr) (c2 : Nat) (l2 : List (S35)) (r : Bool) (w : World) (hr1 : Kd.C k35 w A1 l1.length l1) (hc1 : l1.length ≤ c1) (hr2 : Kd.C k35 w A2 l2.length l2) (hc2 : l2.length ≤ c2) (h : laws_FnExactAreFlipApart.f k a0 l1 l2 = some r) (htrue : Aside0 (r = true) := by exact ⟨rfl⟩) :
  Calls Try.prog 10 #[.int .i64 a0, .slice A1 l1.length c1, .slice A2 l2.length c2] w fun e w' => e = .returned (.bool r) ∧ Below w.heap.size w w' := by
 have hu36 := Try.underlying36
 have HR1 := Aside0.mk hr1
 have HC1 := Aside0.mk hc1
 clear hr1 hc1
 have HR2 := Aside0.mk hr2
 have HC2 := Aside0.mk hc2
 clear hr2 hc2
 have HB := Aside0.mk (Below.refl w.heap.size w)
 have H : ((laws_szDiagonalS.f l1 1048576).bind fun t324 => (if t324 < 0 then (some true) else ((laws_szDiagonalS.f l2 t324).bind fun t325 => (if t325 < 0 then (some true) else ((laws_toDiagonalS.f k l1).bind fun t326 => ((laws_toDiagonalS.f k l2).bind fun t329 => ((spec_AreFlipApart.f k a0 t326 t329).bind fun bt332 => ((laws_toDiagonalS.f k l1).bind fun t336 => ((laws_toDiagonalS.f k l2).bind fun t339 => ((impl_AreFlipApart.f k a0 t336 t339).bind fun bt342 => ((laws_eqDiagonal.f bt342.1 bt342.2.1 bt332.1 bt332.2.1).bind fun t346 => (if t346 = true then (laws_FnExactAreFlipApart.j0 k l1 l2 t336 t339 (bt342.2.2 != bt332.2.2)) else (laws_FnExactAreFlipApart.j0 k l1 l2 t336 t339 true))))))))))))) = some r := h
 clear h
 replace H := Option.bind_eq_some_iff.mp H
 obtain ⟨t324, A40, H⟩ := H
 replace H : (if t324 < 0 then (some true) else ((laws_szDiagonalS.f l2 t324).bind fun t325 => (if t325 < 0 then (some true) else ((laws_toDiagonalS.f k l1).bind fun t326 => ((laws_toDiagonalS.f k l2).bind fun t329 => ((spec_AreFlipApart.f k a0 t326 t329).bind fun bt332 => ((laws_toDiagonalS.f k l1).bind fun t336 => ((laws_toDiagonalS.f k l2).bind fun t339 => ((impl_AreFlipApart.f k a0 t336 t339).bind fun bt342 => ((laws_eqDiagonal.f bt342.1 bt342.2.1 bt332.1 bt332.2.1).bind fun t346 => (if t346 = true then (laws_FnExactAreFlipApart.j0 k l1 l2 t336 t339 (bt342.2.2 != bt332.2.2)) else (laws_FnExactAreFlipApart.j0 k l1 l2 t336 t339 true)))))))))))) = some r := H
 have A4 := Aside0.mk A40
 clear A40
 by_cases c5 : t324 < 0
 ·rw [if_pos c5] at H
  have c5b0 : decide (t324 < 0) = true := decide_eq_true c5
  clear c5
  obtain rfl := Option.some.inj H
  go_enter Try.func10, Try.ntmps10
  go_wp2_with (first | ((with_reducible refine gate_callee (f := 20) rfl ?_); refine goesL_ (some 16) rfl rfl Try.func20 (by kernel_rfl) rfl #[.slice A1 l1.length c1, .int .i64 1048576] rfl amp_ ?_; (with_reducible refine (laws_szDiagonalS.calls _ _ l1 1048576 t324 _ ?side1 ?side2 A4.out).mono ?_); (case side1 => repeat (first | exact HR1.out | (with_reducible refine Kd.C_alloc ?_ _) | (with_reducible refine Kd.C_drewN ?_ _) | (with_reducible refine Kd.C_drew ?_))); (case side2 => exact HC1.out); rintro e w' ⟨rfl, ⟨nd, rfl⟩⟩; refine ⟨_, rfl, ?_⟩))
  go_ret
  exact ⟨by first | rfl | (simp [errW_none, errW_some] <;> rfl) | (simp [*, errW_none, errW_some] <;> rfl), by repeat (first | (with_reducible first | exact HB.out | apply below_alloc | apply pw_below_drewN | apply below_drew1) | exact HB.out)⟩
 ·rw [if_neg c5] at H
  have c5b0 : decide (t324 < 0) = false := decide_eq_false c5
  clear c5
  replace H := Option.bind_eq_some_iff.mp H
  obtain ⟨t325, A60, H⟩ := H
  replace H : (if t325 < 0 then (some true) else ((laws_toDiagonalS.f k l1).bind fun t326 => ((laws_toDiagonalS.f k l2).bind fun t329 => ((spec_AreFlipApart.f k a0 t326 t329).bind fun bt332 => ((laws_toDiagonalS.f k l1).bind fun t336 => ((laws_toDiagonalS.f k l2).bind fun t339 => ((impl_AreFlipApart.f k a0 t336 t339).bind fun bt342 => ((laws_eqDiagonal.f bt342.1 bt342.2.1 bt332.1 bt332.2.1).bind fun t346 => (if t346 = true then (laws_FnExactAreFlipApart.j0 k l1 l2 t336 t339 (bt342.2.2 != bt332.2.2)) else (laws_FnExactAreFlipApart.j0 k l1 l2 t336 t339 true)))))))))) = some r := H
  have A6 := Aside0.mk A60
  clear A60
  by_cases c7 : t325 < 0
  ·rw [if_pos c7] at H
   have c7b0 : decide (t325 < 0) = true := decide_eq_true c7
   clear c7
   obtain rfl := Option.some.inj H
   go_enter Try.func10, Try.ntmps10
   go_wp2_with (first | ((with_reducible refine gate_callee (f := 20) rfl ?_); refine goesL_ (some 16) rfl rfl Try.func20 (by kernel_rfl) rfl #[.slice A1 l1.length c1, .int .i64 1048576] rfl amp_ ?_; (with_reducible refine (laws_szDiagonalS.calls _ _ l1 1048576 t324 _ ?side1 ?side2 A4.out).mono ?_); (case side1 => repeat (first | exact HR1.out | (with_reducible refine Kd.C_alloc ?_ _) | (with_reducible refine Kd.C_drewN ?_ _) | (with_reducible refine Kd.C_drew ?_))); (case side2 => exact HC1.out); rintro e w' ⟨rfl, ⟨nd, rfl⟩⟩; refine ⟨_, rfl, ?_⟩) | ((with_reducible refine gate_callee (f := 20) rfl ?_); refine goesL_ (some 21) rfl rfl Try.func20 (by kernel_rfl) rfl #[.slice A2 l2.length c2, .int .i64 t324] rfl amp_ ?_; (with_reducible refine (laws_szDiagonalS.calls _ _ l2 t324 t325 _ ?side1 ?side2 A6.out).mono ?_); (case side1 => repeat (first | exact HR2.out | (with_reducible refine Kd.C_alloc ?_ _) | (with_reducible refine Kd.C_drewN ?_ _) | (with_reducible refine Kd.C_drew ?_))); (case side2 => exact HC2.out); rintro e w' ⟨rfl, ⟨nd, rfl⟩⟩; refine ⟨_, rfl, ?_⟩))
   go_ret
   exact ⟨by first | rfl | (simp [errW_none, errW_some] <;> rfl) | (simp [*, errW_none, errW_some] <;> rfl), by repeat (first | (with_reducible first | exact HB.out | apply below_alloc | apply pw_below_drewN | apply below_drew1) | exact HB.out)⟩
  ·rw [if_neg c7] at H
   have c7b0 : decide (t325 < 0) = false := decide_eq_false c7
   clear c7
   replace H := Option.bind_eq_some_iff.mp H
   obtain ⟨t326, A80, H⟩ := H
   replace H : ((laws_toDiagonalS.f k l2).bind fun t329 => ((spec_AreFlipApart.f k a0 t326 t329).bind fun bt332 => ((laws_toDiagonalS.f k l1).bind fun t336 => ((laws_toDiagonalS.f k l2).bind fun t339 => ((impl_AreFlipApart.f k a0 t336 t339).bind fun bt342 => ((laws_eqDiagonal.f bt342.1 bt342.2.1 bt332.1 bt332.2.1).bind fun t346 => (if t346 = true then (laws_FnExactAreFlipApart.j0 k l1 l2 t336 t339 (bt342.2.2 != bt332.2.2)) else (laws_FnExactAreFlipApart.j0 k l1 l2 t336 t339 true)))))))) = some r := H
   have A8 := Aside0.mk A80
   clear A80
   replace H := Option.bind_eq_some_iff.mp H
   obtain ⟨t329, A90, H⟩ := H
   replace H : ((spec_AreFlipApart.f k a0 t326 t329).bind fun bt332 => ((laws_toDiagonalS.f k l1).bind fun t336 => ((laws_toDiagonalS.f k l2).bind fun t339 => ((impl_AreFlipApart.f k a0 t336 t339).bind fun bt342 => ((laws_eqDiagonal.f bt342.1 bt342.2.1 bt332.1 bt332.2.1).bind fun t346 => (if t346 = true then (laws_FnExactAreFlipApart.j0 k l1 l2 t336 t339 (bt342.2.2 != bt332.2.2)) else (laws_FnExactAreFlipApart.j0 k l1 l2 t336 t339 true))))))) = some r := H
   have A9 := Aside0.mk A90
   clear A90
   replace H := Option.bind_eq_some_iff.mp H
   obtain ⟨⟨t332, t333, t334⟩, A100, H⟩ := H
   replace H : ((laws_toDiagonalS.f k l1).bind fun t336 => ((laws_toDiagonalS.f k l2).bind fun t339 => ((impl_AreFlipApart.f k a0 t336 t339).bind fun bt342 => ((laws_eqDiagonal.f bt342.1 bt342.2.1 t332 t333).bind fun t346 => (if t346 = true then (laws_FnExactAreFlipApart.j0 k l1 l2 t336 t339 (bt342.2.2 != t334)) else (laws_FnExactAreFlipApart.j0 k l1 l2 t336 t339 true)))))) = some r := H
   have A10 := Aside0.mk A100
   clear A100
   replace H := Option.bind_eq_some_iff.mp H
   obtain ⟨t336, A110, H⟩ := H
   replace H : ((laws_toDiagonalS.f k l2).bind fun t339 => ((impl_AreFlipApart.f k a0 t336 t339).bind fun bt342 => ((laws_eqDiagonal.f bt342.1 bt342.2.1 t332 t333).bind fun t346 => (if t346 = true then (laws_FnExactAreFlipApart.j0 k l1 l2 t336 t339 (bt342.2.2 != t334)) else (laws_FnExactAreFlipApart.j0 k l1 l2 t336 t339 true))))) = some r := H
   have A11 := Aside0.mk A110
   clear A110
   replace H := Option.bind_eq_some_iff.mp H
   obtain ⟨t339, A120, H⟩ := H
   replace H : ((impl_AreFlipApart.f k a0 t336 t339).bind fun bt342 => ((laws_eqDiagonal.f bt342.1 bt342.2.1 t332 t333).bind fun t346 => (if t346 = true then (laws_FnExactAreFlipApart.j0 k l1 l2 t336 t339 (bt342.2.2 != t334)) else (laws_FnExactAreFlipApart.j0 k l1 l2 t336 t339 true)))) = some r := H
   have A12 := Aside0.mk A120
   clear A120
   replace H := Option.bind_eq_some_iff.mp H
   obtain ⟨⟨t342, t343, t344⟩, A130, H⟩ := H
   replace H : ((laws_eqDiagonal.f t342 t343 t332 t333).bind fun t346 => (if t346 = true then (laws_FnExactAreFlipApart.j0 k l1 l2 t336 t339 (t344 != t334)) else (laws_FnExactAreFlipApart.j0 k l1 l2 t336 t339 true))) = some r := H
   have A13 := Aside0.mk A130
   clear A130
   have HC14 := Aside0.mk H
   clear H
   go_enter Try.func10, Try.ntmps10
   go_upto_region 12 with (first | ((with_reducible refine gate_callee (f := 20) rfl ?_); refine goesL_ (some 16) rfl rfl Try.func20 (by kernel_rfl) rfl #[.slice A1 l1.length c1, .int .i64 1048576] rfl amp_ ?_; (with_reducible refine (laws_szDiagonalS.calls _ _ l1 1048576 t324 _ ?side1 ?side2 A4.out).mono ?_); (case side1 => repeat (first | exact HR1.out | (with_reducible refine Kd.C_alloc ?_ _) | (with_reducible refine Kd.C_drewN ?_ _) | (with_reducible refine Kd.C_drew ?_))); (case side2 => exact HC1.out); rintro e w' ⟨rfl, ⟨nd, rfl⟩⟩; refine ⟨_, rfl, ?_⟩) | ((with_reducible refine gate_callee (f := 20) rfl ?_); refine goesL_ (some 21) rfl rfl Try.func20 (by kernel_rfl) rfl #[.slice A2 l2.length c2, .int .i64 t324] rfl amp_ ?_; (with_reducible refine (laws_szDiagonalS.calls _ _ l2 t324 t325 _ ?side1 ?side2 A6.out).mono ?_); (case side1 => repeat (first | exact HR2.out | (with_reducible refine Kd.C_alloc ?_ _) | (with_reducible refine Kd.C_drewN ?_ _) | (with_reducible refine Kd.C_drew ?_))); (case side2 => exact HC2.out); rintro e w' ⟨rfl, ⟨nd, rfl⟩⟩; refine ⟨_, rfl, ?_⟩) | ((with_reducible refine gate_callee (f := 22) rfl ?_); refine goesL_ (some 27) rfl rfl Try.func22 (by kernel_rfl) rfl #[.slice A1 l1.length c1] rfl amp_ ?_; (with_reducible refine (laws_toDiagonalS.calls k _ _ l1 t326 _ ?side1 ?side2 A8.out).mono ?_); (case side1 => repeat (first | exact HR1.out | (with_reducible refine Kd.C_alloc ?_ _) | (with_reducible refine Kd.C_drewN ?_ _) | (with_reducible refine Kd.C_drew ?_))); (case side2 => exact HC1.out); rintro e w15 ⟨v327, rfl, ho0, hb⟩; refine ⟨_, rfl, ?_⟩; have n0_ := Aside0.mk (Kd.R_lower ho0 (below_size blw_)); have n1_ := Aside0.mk (below_step blw_ hb); clear HB; have HO328 := n0_; have HB := n1_; clear n0_ n1_; (try clear hb); (try clear hb2); (try clear hk); (try clear hi); (try clear ho0)) | ((with_reducible refine gate_callee (f := 22) rfl ?_); refine goesL_ (some 29) rfl rfl Try.func22 (by kernel_rfl) rfl #[.slice A2 l2.length c2] rfl amp_ ?_; (with_reducible refine (laws_toDiagonalS.calls k _ _ l2 t329 _ ?side1 ?side2 A9.out).mono ?_); (case side1 => repeat (first | exact (Kd.C_below HR2.out HB.out) | (with_reducible refine Kd.C_alloc ?_ _) | (with_reducible refine Kd.C_drewN ?_ _) | (with_reducible refine Kd.C_drew ?_))); (case side2 => exact HC2.out); rintro e w16 ⟨v330, rfl, ho0, hb⟩; refine ⟨_, rfl, ?_⟩; have n0_ := Aside0.mk (Kd.R_elder' (ra_ HO328.out) (Kd.R_base ho0) hb); have n1_ := Aside0.mk (Kd.R_lower (Kd.R_new' ho0 (Kd.R_lt (ra_ HO328.out))) (below_size blw_)); have n2_ := Aside0.mk (below_step blw_ hb); clear HO328; clear HB; have HO328 := n0_; have HO331 := n1_; have HB := n2_; clear n0_ n1_ n2_; (try clear hb); (try clear hb2); (try clear hk); (try clear hi); (try clear ho0); obtain ⟨Ao17, co17, eo17⟩ := Kd.R_slice HO328.out; subst eo17; obtain ⟨Ao18, co18, eo18⟩ := Kd.R_slice HO331.out; subst eo18) | ((with_reducible refine gate_callee (f := 39) rfl ?_); refine goesL_ (some 30) rfl rfl Try.func39 (by kernel_rfl) rfl #[.int .i64 a0, .slice Ao17 t326.length co17, .slice Ao18 t329.length co18] rfl amp_ ?_; (with_reducible refine (spec_AreFlipApart.calls k a0 _ _ t326 _ _ t329 t332 t333 t334 _ ?side1 ?side2 ?side3 ?side4 A10.out).mono ?_); (case side1 => repeat (first | exact (Kd.R_reads' HO328.out).2.2 | (with_reducible refine Kd.C_alloc ?_ _) | (with_reducible refine Kd.C_drewN ?_ _) | (with_reducible refine Kd.C_drew ?_))); (case side2 => exact (Kd.R_reads' HO328.out).2.1); (case side3 => repeat (first | exact (Kd.R_reads' HO331.out).2.2 | (with_reducible refine Kd.C_alloc ?_ _) | (with_reducible refine Kd.C_drewN ?_ _) | (with_reducible refine Kd.C_drew ?_))); (case side4 => exact (Kd.R_reads' HO331.out).2.1); rintro e w19 ⟨rfl, hb⟩; refine ⟨_, rfl, ?_⟩; have n0_ := Aside0.mk (Kd.R_below (ra_ HO328.out) hb); have n1_ := Aside0.mk (Kd.R_below (ra_ HO331.out) hb); have n2_ := Aside0.mk (below_step blw_ hb); clear HO328; clear HO331; clear HB; have HO328 := n0_; have HO331 := n1_; have HB := n2_; clear n0_ n1_ n2_; (try clear hb); (try clear hb2); (try clear hk); (try clear hi)) | ((with_reducible refine gate_dst (N := 8) rfl ?_); refine box_event ?hg (N := 8) ?hd (cs := #[.int .i64 0, .int .i64 0]) (t := 36) ?hr ?_; (case hd => rfl); (case hg => rfl); (case hr => first | (go_simp; done) | (go_simp; rfl)); intro gb335 hg w20 hbox hb; have n0_ := Aside0.mk (Kd.R_below (Kd.R_elderB (ra_ HO328.out) gb335 (Nat.le_of_eq hg.symm)) hb); have n1_ := Aside0.mk (Kd.R_below (Kd.R_elderB (ra_ HO331.out) gb335 (Nat.le_of_eq hg.symm)) hb); have n2_ := Aside0.mk (below_step blw_ hb); have n3_ := Aside0.mk (hbox); have n4_ := Aside0.mk ((by rw [hg]; exact (below_size blw_) : w.heap.size ≤ gb335)); have n5_ := Aside0.mk ((by rw [hg]; exact (below_size blw_) : w.heap.size ≤ gb335)); clear HO328; clear HO331; clear HB; have HO328 := n0_; have HO331 := n1_; have HB := n2_; have BK335 := n3_; have GW335 := n4_; have GE335 := n5_; clear n0_ n1_ n2_ n3_ n4_ n5_; clear hb hbox hg; have hcz21_0 : w20.cell? ⟨gb335, 0, none⟩ = some (.int .i64 0) := (blk_cell BK335.out 0).trans rfl; have hcz21_1 : w20.cell? ⟨gb335, 1, none⟩ = some (.int .i64 0) := (blk_cell BK335.out 1).trans rfl; have hfz21_0 := blk_frozen BK335.out 0; have hfz21_1 := blk_frozen BK335.out 1) | ((with_reducible refine gate_callee (f := 22) rfl ?_); refine goesL_ (some 34) rfl rfl Try.func22 (by kernel_rfl) rfl #[.slice A1 l1.length c1] rfl amp_ ?_; (with_reducible refine (laws_toDiagonalS.calls k _ _ l1 t336 _ ?side1 ?side2 A11.out).mono ?_); (case side1 => exact Kd.C_below HR1.out (by repeat (first | (with_reducible first | exact HB.out | apply below_alloc | apply pw_below_drewN | apply below_drew1 | refine below_set ?_ GE335.out) | exact HB.out))); (case side2 => exact HC1.out); rintro e w22 ⟨v337, rfl, ho0, hb⟩; refine ⟨_, rfl, ?_⟩; have n0_ := Aside0.mk (Kd.R_elder' (by (with_reducible repeat (first | apply Kd.R_alloc | apply Kd.R_drewN | apply Kd.R_drew)); exact (Kd.R_mono (Kd.R_far (p := ⟨gb335, 1, none⟩) (Kd.R_far (p := ⟨gb335, 0, none⟩) (Kd.R_mono HO328.out (fun k_ hk => (⟨hk, hk.2⟩ : _ ∧ k_ ≠ gb335))) (fun _ hk => hk.2) (.int .i64 t332)) (fun _ hk => hk.2) (.int .i64 t333)) (fun _ h_ => h_.1))) (Kd.R_base ho0) hb); have n1_ := Aside0.mk (Kd.R_elder' (by (with_reducible repeat (first | apply Kd.R_alloc | apply Kd.R_drewN | apply Kd.R_drew)); exact (Kd.R_mono (Kd.R_far (p := ⟨gb335, 1, none⟩) (Kd.R_far (p := ⟨gb335, 0, none⟩) (Kd.R_mono HO331.out (fun k_ hk => (⟨hk, hk.2⟩ : _ ∧ k_ ≠ gb335))) (fun _ hk => hk.2) (.int .i64 t332)) (fun _ hk => hk.2) (.int .i64 t333)) (fun _ h_ => h_.1))) (Kd.R_base ho0) hb); have n2_ := Aside0.mk (Kd.R_lower (Kd.R_newB (Kd.R_new' (Kd.R_new' ho0 (Kd.R_lt (by (with_reducible repeat (first | apply Kd.R_alloc | apply Kd.R_drewN | apply Kd.R_drew)); exact (Kd.R_mono (Kd.R_far (p := ⟨gb335, 1, none⟩) (Kd.R_far (p := ⟨gb335, 0, none⟩) (Kd.R_mono HO328.out (fun k_ hk => (⟨hk, hk.2⟩ : _ ∧ k_ ≠ gb335))) (fun _ hk => hk.2) (.int .i64 t332)) (fun _ hk => hk.2) (.int .i64 t333)) (fun _ h_ => h_.1))))) (Kd.R_lt (by (with_reducible repeat (first | apply Kd.R_alloc | apply Kd.R_drewN | apply Kd.R_drew)); exact (Kd.R_mono (Kd.R_far (p := ⟨gb335, 1, none⟩) (Kd.R_far (p := ⟨gb335, 0, none⟩) (Kd.R_mono HO331.out (fun k_ hk => (⟨hk, hk.2⟩ : _ ∧ k_ ≠ gb335))) (fun _ hk => hk.2) (.int .i64 t332)) (fun _ hk => hk.2) (.int .i64 t333)) (fun _ h_ => h_.1))))) (g := gb335) (o := .cells #[.int .i64 t332, .int .i64 t333] 36 (0, 0)) (by (with_reducible repeat (first | refine blk_drewN ?_ _ | refine blk_drew ?_ | refine blk_alloc ?_ _)); refine blk_put (cs := #[.int .i64 t332, .int .i64 0]) ?_ 1 _ rfl; (with_reducible repeat (first | refine blk_drewN ?_ _ | refine blk_drew ?_ | refine blk_alloc ?_ _)); refine blk_put (cs := #[.int .i64 0, .int .i64 0]) ?_ 0 _ rfl; (with_reducible repeat (first | refine blk_drewN ?_ _ | refine blk_drew ?_ | refine blk_alloc ?_ _)); exact BK335.out)) (below_size (by repeat (first | (with_reducible first | exact HB.out | apply below_alloc | apply pw_below_drewN | apply below_drew1 | refine below_set ?_ GE335.out) | exact HB.out)))); have n3_ := Aside0.mk (blk_below (g := gb335) (o := .cells #[.int .i64 t332, .int .i64 t333] 36 (0, 0)) (by (with_reducible repeat (first | refine blk_drewN ?_ _ | refine blk_drew ?_ | refine blk_alloc ?_ _)); refine blk_put (cs := #[.int .i64 t332, .int .i64 0]) ?_ 1 _ rfl; (with_reducible repeat (first | refine blk_drewN ?_ _ | refine blk_drew ?_ | refine blk_alloc ?_ _)); refine blk_put (cs := #[.int .i64 0, .int .i64 0]) ?_ 0 _ rfl; (with_reducible repeat (first | refine blk_drewN ?_ _ | refine blk_drew ?_ | refine blk_alloc ?_ _)); exact BK335.out) hb); have n4_ := Aside0.mk (below_step (by repeat (first | (with_reducible first | exact HB.out | apply below_alloc | apply pw_below_drewN | apply below_drew1 | refine below_set ?_ GE335.out) | exact HB.out)) hb); clear HO328; clear HO331; clear BK335; clear HB; have HO328 := n0_; have HO331 := n1_; have HO338 := n2_; have BK335 := n3_; have HB := n4_; clear n0_ n1_ n2_ n3_ n4_; (try clear hb); (try clear hb2); (try clear hk); (try clear hi); (try clear ho0)) | ((with_reducible refine gate_callee (f := 22) rfl ?_); refine goesL_ (some 36) rfl rfl Try.func22 (by kernel_rfl) rfl #[.slice A2 l2.length c2] rfl amp_ ?_; (with_reducible refine (laws_toDiagonalS.calls k _ _ l2 t339 _ ?side1 ?side2 A12.out).mono ?_); (case side1 => repeat (first | exact (Kd.C_below HR2.out HB.out) | (with_reducible refine Kd.C_alloc ?_ _) | (with_reducible refine Kd.C_drewN ?_ _) | (with_reducible refine Kd.C_drew ?_))); (case side2 => exact HC2.out); rintro e w23 ⟨v340, rfl, ho0, hb⟩; refine ⟨_, rfl, ?_⟩; have n0_ := Aside0.mk (Kd.R_elder' (ra_ HO328.out) (Kd.R_base ho0) hb); have n1_ := Aside0.mk (Kd.R_elder' (ra_ HO331.out) (Kd.R_base ho0) hb); have n2_ := Aside0.mk (Kd.R_elder' (ra_ HO338.out) (Kd.R_base ho0) hb); have n3_ := Aside0.mk (Kd.R_lower (Kd.R_newB (Kd.R_new' (Kd.R_new' (Kd.R_new' ho0 (Kd.R_lt (ra_ HO328.out))) (Kd.R_lt (ra_ HO331.out))) (Kd.R_lt (ra_ HO338.out))) (g := gb335) (o := .cells #[.int .i64 t332, .int .i64 t333] 36 (0, 0)) (bk_ BK335.out)) (below_size (by repeat (first | (with_reducible first | exact HB.out | apply below_alloc | apply pw_below_drewN | apply below_drew1 | refine below_set ?_ GE335.out) | exact HB.out)))); have n4_ := Aside0.mk (blk_below (g := gb335) (o := .cells #[.int .i64 t332, .int .i64 t333] 36 (0, 0)) (bk_ BK335.out) hb); have n5_ := Aside0.mk (below_step (by repeat (first | (with_reducible first | exact HB.out | apply below_alloc | apply pw_below_drewN | apply below_drew1 | refine below_set ?_ GE335.out) | exact HB.out)) hb); clear HO328; clear HO331; clear HO338; clear BK335; clear HB; have HO328 := n0_; have HO331 := n1_; have HO338 := n2_; have HO341 := n3_; have BK335 := n4_; have HB := n5_; clear n0_ n1_ n2_ n3_ n4_ n5_; (try clear hb); (try clear hb2); (try clear hk); (try clear hi); (try clear ho0); obtain ⟨Ao24, co24, eo24⟩ := Kd.R_slice HO338.out; subst eo24; obtain ⟨Ao25, co25, eo25⟩ := Kd.R_slice HO341.out; subst eo25) | ((with_reducible refine gate_callee (f := 40) rfl ?_); refine goesL_ (some 41) rfl rfl Try.func40 (by kernel_rfl) rfl #[.int .i64 a0, .slice Ao24 t336.length co24, .slice Ao25 t339.length co25] rfl amp_ ?_; (with_reducible refine (impl_AreFlipApart.calls k a0 _ _ t336 _ _ t339 t342 t343 t344 _ ?side1 ?side2 ?side3 ?side4 A13.out).mono ?_); (case side1 => repeat (first | exact (Kd.R_reads' HO338.out).2.2 | (with_reducible refine Kd.C_alloc ?_ _) | (with_reducible refine Kd.C_drewN ?_ _) | (with_reducible refine Kd.C_drew ?_))); (case side2 => exact (Kd.R_reads' HO338.out).2.1); (case side3 => repeat (first | exact (Kd.R_reads' HO341.out).2.2 | (with_reducible refine Kd.C_alloc ?_ _) | (with_reducible refine Kd.C_drewN ?_ _) | (with_reducible refine Kd.C_drew ?_))); (case side4 => exact (Kd.R_reads' HO341.out).2.1); rintro e w26 ⟨rfl, hb⟩; refine ⟨_, rfl, ?_⟩; have n0_ := Aside0.mk (Kd.R_below (ra_ HO328.out) hb); have n1_ := Aside0.mk (Kd.R_below (ra_ HO331.out) hb); have n2_ := Aside0.mk (Kd.R_below (ra_ HO338.out) hb); have n3_ := Aside0.mk (Kd.R_below (ra_ HO341.out) hb); have n4_ := Aside0.mk (blk_below (g := gb335) (o := .cells #[.int .i64 t332, .int .i64 t333] 36 (0, 0)) (bk_ BK335.out) hb); have n5_ := Aside0.mk (below_step (by repeat (first | (with_reducible first | exact HB.out | apply below_alloc | apply pw_below_drewN | apply below_drew1 | refine below_set ?_ GE335.out) | exact HB.out)) hb); clear HO328; clear HO331; clear HO338; clear HO341; clear BK335; clear HB; have HO328 := n0_; have HO331 := n1_; have HO338 := n2_; have HO341 := n3_; have BK335 := n4_; have HB := n5_; clear n0_ n1_ n2_ n3_ n4_ n5_; (try clear hb); (try clear hb2); (try clear hk); (try clear hi)) | ((with_reducible refine gate_dst (N := 12) rfl ?_); refine box_event ?hg (N := 12) ?hd (cs := #[.int .i64 0, .int .i64 0]) (t := 36) ?hr ?_; (case hd => rfl); (case hg => rfl); (case hr => first | (go_simp; done) | (go_simp; rfl)); intro gb345 hg w27 hbox hb; have n0_ := Aside0.mk (Kd.R_below (Kd.R_elderB (ra_ HO328.out) gb345 (Nat.le_of_eq hg.symm)) hb); have n1_ := Aside0.mk (Kd.R_below (Kd.R_elderB (ra_ HO331.out) gb345 (Nat.le_of_eq hg.symm)) hb); have n2_ := Aside0.mk (Kd.R_below (Kd.R_elderB (ra_ HO338.out) gb345 (Nat.le_of_eq hg.symm)) hb); have n3_ := Aside0.mk (Kd.R_below (Kd.R_elderB (ra_ HO341.out) gb345 (Nat.le_of_eq hg.symm)) hb); have n4_ := Aside0.mk (blk_below (g := gb335) (o := .cells #[.int .i64 t332, .int .i64 t333] 36 (0, 0)) (bk_ BK335.out) hb); have n5_ := Aside0.mk (below_step (by repeat (first | (with_reducible first | exact HB.out | apply below_alloc | apply pw_below_drewN | apply below_drew1 | refine below_set ?_ GE335.out) | exact HB.out)) hb); have n6_ := Aside0.mk (hbox); have n7_ := Aside0.mk ((by rw [hg]; exact (below_size (by repeat (first | (with_reducible first | exact HB.out | apply below_alloc | apply pw_below_drewN | apply below_drew1 | refine below_set ?_ GE335.out) | exact HB.out))) : w.heap.size ≤ gb345)); have n8_ := Aside0.mk ((by rw [hg]; exact (below_size (by repeat (first | (with_reducible first | exact HB.out | apply below_alloc | apply pw_below_drewN | apply below_drew1 | refine below_set ?_ GE335.out) | exact HB.out))) : w.heap.size ≤ gb345)); have n9_ := Aside0.mk ((by rw [hg]; exact Nat.ne_of_lt (blk_lt (g := gb335) (o := .cells #[.int .i64 t332, .int .i64 t333] 36 (0, 0)) (bk_ BK335.out)) : gb335 ≠ gb345)); have n10_ := Aside0.mk ((by rw [hg]; exact Nat.ne_of_gt (blk_lt (g := gb335) (o := .cells #[.int .i64 t332, .int .i64 t333] 36 (0, 0)) (bk_ BK335.out)) : gb345 ≠ gb335)); clear HO328; clear HO331; clear HO338; clear HO341; clear BK335; clear HB; have HO328 := n0_; have HO331 := n1_; have HO338 := n2_; have HO341 := n3_; have BK335 := n4_; have HB := n5_; have BK345 := n6_; have GW345 := n7_; have GE345 := n8_; have NB335_345 := n9_; have NB345_335 := n10_; clear n0_ n1_ n2_ n3_ n4_ n5_ n6_ n7_ n8_ n9_ n10_; clear hb hbox hg; have hnb28 := NB345_335.out; have hnc28 := NB335_345.out; have hcz29_0 : w27.cell? ⟨gb345, 0, none⟩ = some (.int .i64 0) := (blk_cell BK345.out 0).trans rfl; have hcz29_1 : w27.cell? ⟨gb345, 1, none⟩ = some (.int .i64 0) := (blk_cell BK345.out 1).trans rfl; have hfz29_0 := blk_frozen BK345.out 0; have hfz29_1 := blk_frozen BK345.out 1))
   (try simp only [Act.put, List.setIfInBounds_toArray, List.set_cons_zero, List.set_cons_succ])
   go_cut [52] (fun v52 wc => ∃ (kq : Nat) (x52_13 : Bool), v52 = .bool x52_13 ∧ Aside0 (laws_FnExactAreFlipApart.j0 kq l1 l2 t336 t339 x52_13 = some r) ∧ Aside0 (kq ≤ k) ∧ Aside0 (Kd.R k36 36 wc w.heap.size (fun k_ => some k_ ≠ ((.slice Ao25 t339.length co25) : Value).ownBlock ∧ k_ ≠ gb335 ∧ k_ ≠ gb345) (.slice Ao24 t336.length co24) t336) ∧ Aside0 (Kd.R k36 36 wc w.heap.size (fun k_ => some k_ ≠ ((.slice Ao24 t336.length co24) : Value).ownBlock ∧ k_ ≠ gb335 ∧ k_ ≠ gb345) (.slice Ao25 t339.length co25) t339) ∧ Aside0 (wc.heap[gb335]? = some (.cells #[.int .i64 t332, .int .i64 t333] 36 (0, 0))) ∧ Aside0 (wc.heap[gb345]? = some (.cells #[.int .i64 t342, .int .i64 t343] 36 (0, 0))) ∧ Aside0 (Below w.heap.size w wc))
   case first =>
    have H := HC14.out
    clear HC14
    replace H := Option.bind_eq_some_iff.mp H
    obtain ⟨t346, A300, H⟩ := H
    replace H : (if t346 = true then (laws_FnExactAreFlipApart.j0 k l1 l2 t336 t339 (t344 != t334)) else (laws_FnExactAreFlipApart.j0 k l1 l2 t336 t339 true)) = some r := H
    have A30 := Aside0.mk A300
    clear A300
    by_cases c31 : t346 = true
    ·subst c31
     have H1 : (laws_FnExactAreFlipApart.j0 k l1 l2 t336 t339 (t344 != t334)) = some r := by rw [if_pos rfl] at H; exact H
     clear H
     have H := H1
     clear H1
     have H' := Aside0.mk H
     clear H
     have hnb32 := NB345_335.out
     have hnc32 := NB335_345.out
     have hcz33_0 : w27.cell? ⟨gb345, 0, none⟩ = some (.int .i64 0) := (blk_cell BK345.out 0).trans rfl
     have hcz33_1 : w27.cell? ⟨gb345, 1, none⟩ = some (.int .i64 0) := (blk_cell BK345.out 1).trans rfl
     have hfz33_0 := blk_frozen BK345.out 0
     have hfz33_1 := blk_frozen BK345.out 1
     have hcz34_0 : w27.cell? ⟨gb335, 0, none⟩ = some (.int .i64 t332) := (blk_cell BK335.out 0).trans rfl
     have hcz34_1 : w27.cell? ⟨gb335, 1, none⟩ = some (.int .i64 t333) := (blk_cell BK335.out 1).trans rfl
     have hfz34_0 := blk_frozen BK335.out 0
     have hfz34_1 := blk_frozen BK335.out 1
     go_wp2_with (first | ((with_reducible refine gate_callee (f := 27) rfl ?_); refine goesL_ (some 46) rfl rfl Try.func27 (by kernel_rfl) rfl #[.agg #[.int .i64 t342, .int .i64 t343], .agg #[.int .i64 t332, .int .i64 t333]] rfl amp_ ?_; (with_reducible refine (laws_eqDiagonal.calls t342 t343 t332 t333 true _ A30.out).mono ?_); rintro e w35 ⟨rfl, hb⟩; refine ⟨_, rfl, ?_⟩; have n0_ := Aside0.mk (Kd.R_below (by (with_reducible repeat (first | apply Kd.R_alloc | apply Kd.R_drewN | apply Kd.R_drew)); exact (Kd.R_mono (Kd.R_far (p := ⟨gb345, 1, none⟩) (Kd.R_far (p := ⟨gb345, 0, none⟩) (Kd.R_mono HO328.out (fun k_ hk => (⟨hk, hk.2⟩ : _ ∧ k_ ≠ gb345))) (fun _ hk => hk.2) (.int .i64 t342)) (fun _ hk => hk.2) (.int .i64 t343)) (fun _ h_ => h_.1))) hb); have n1_ := Aside0.mk (Kd.R_below (by (with_reducible repeat (first | apply Kd.R_alloc | apply Kd.R_drewN | apply Kd.R_drew)); exact (Kd.R_mono (Kd.R_far (p := ⟨gb345, 1, none⟩) (Kd.R_far (p := ⟨gb345, 0, none⟩) (Kd.R_mono HO331.out (fun k_ hk => (⟨hk, hk.2⟩ : _ ∧ k_ ≠ gb345))) (fun _ hk => hk.2) (.int .i64 t342)) (fun _ hk => hk.2) (.int .i64 t343)) (fun _ h_ => h_.1))) hb); have n2_ := Aside0.mk (Kd.R_below (by (with_reducible repeat (first | apply Kd.R_alloc | apply Kd.R_drewN | apply Kd.R_drew)); exact (Kd.R_mono (Kd.R_far (p := ⟨gb345, 1, none⟩) (Kd.R_far (p := ⟨gb345, 0, none⟩) (Kd.R_mono HO338.out (fun k_ hk => (⟨hk, hk.2⟩ : _ ∧ k_ ≠ gb345))) (fun _ hk => hk.2) (.int .i64 t342)) (fun _ hk => hk.2) (.int .i64 t343)) (fun _ h_ => h_.1))) hb); have n3_ := Aside0.mk (Kd.R_below (by (with_reducible repeat (first | apply Kd.R_alloc | apply Kd.R_drewN | apply Kd.R_drew)); exact (Kd.R_mono (Kd.R_far (p := ⟨gb345, 1, none⟩) (Kd.R_far (p := ⟨gb345, 0, none⟩) (Kd.R_mono HO341.out (fun k_ hk => (⟨hk, hk.2⟩ : _ ∧ k_ ≠ gb345))) (fun _ hk => hk.2) (.int .i64 t342)) (fun _ hk => hk.2) (.int .i64 t343)) (fun _ h_ => h_.1))) hb); have n4_ := Aside0.mk (blk_below (g := gb335) (o := .cells #[.int .i64 t332, .int .i64 t333] 36 (0, 0)) (by (with_reducible repeat (first | refine blk_drewN ?_ _ | refine blk_drew ?_ | refine blk_alloc ?_ _)); refine blk_far ?_ NB335_345.out _; (with_reducible repeat (first | refine blk_drewN ?_ _ | refine blk_drew ?_ | refine blk_alloc ?_ _)); refine blk_far ?_ NB335_345.out _; (with_reducible repeat (first | refine blk_drewN ?_ _ | refine blk_drew ?_ | refine blk_alloc ?_ _)); exact BK335.out) hb); have n5_ := Aside0.mk (blk_below (g := gb345) (o := .cells #[.int .i64 t342, .int .i64 t343] 36 (0, 0)) (by (with_reducible repeat (first | refine blk_drewN ?_ _ | refine blk_drew ?_ | refine blk_alloc ?_ _)); refine blk_put (cs := #[.int .i64 t342, .int .i64 0]) ?_ 1 _ rfl; (with_reducible repeat (first | refine blk_drewN ?_ _ | refine blk_drew ?_ | refine blk_alloc ?_ _)); refine blk_put (cs := #[.int .i64 0, .int .i64 0]) ?_ 0 _ rfl; (with_reducible repeat (first | refine blk_drewN ?_ _ | refine blk_drew ?_ | refine blk_alloc ?_ _)); exact BK345.out) hb); have n6_ := Aside0.mk (below_step (by repeat (first | (with_reducible first | exact HB.out | apply below_alloc | apply pw_below_drewN | apply below_drew1 | refine below_set ?_ GE335.out | refine below_set ?_ GE345.out) | exact HB.out)) hb); clear HO328; clear HO331; clear HO338; clear HO341; clear BK335; clear BK345; clear HB; have HO328 := n0_; have HO331 := n1_; have HO338 := n2_; have HO341 := n3_; have BK335 := n4_; have BK345 := n5_; have HB := n6_; clear n0_ n1_ n2_ n3_ n4_ n5_ n6_; (try clear hb); (try clear hb2); (try clear hk); (try clear hi)))
     go_meet
     case rel => exact ⟨_, ((t344 != t334)), (by first | rfl | (simp; done) | (simp [*]; done)), H', ⟨by first | omega | exact Nat.le_refl _⟩, ⟨by (with_reducible repeat (first | apply Kd.R_alloc | apply Kd.R_drewN | apply Kd.R_drew)); exact Kd.R_mono HO338.out (fun _ hk => ⟨hk.1.2, ⟨hk.1.1.2, hk.2⟩⟩)⟩, ⟨by (with_reducible repeat (first | apply Kd.R_alloc | apply Kd.R_drewN | apply Kd.R_drew)); exact Kd.R_mono HO341.out (fun _ hk => ⟨hk.1.1.2, ⟨hk.1.2, hk.2⟩⟩)⟩, ⟨bk_ BK335.out⟩, ⟨bk_ BK345.out⟩, ⟨by repeat (first | (with_reducible first | exact HB.out | apply below_alloc | apply pw_below_drewN | apply below_drew1 | refine below_set ?_ GE335.out | refine below_set ?_ GE345.out) | exact HB.out)⟩⟩
    ·replace c31 := Bool.eq_false_iff.mpr c31
     subst c31
     have H1 : (laws_FnExactAreFlipApart.j0 k l1 l2 t336 t339 true) = some r := by rw [if_neg (show ¬ (false = true) by decide)] at H; exact H
     clear H
     have H := H1
     clear H1
     have H' := Aside0.mk H
     clear H
     have hnb36 := NB345_335.out
     have hnc36 := NB335_345.out
     have hcz37_0 : w27.cell? ⟨gb345, 0, none⟩ = some (.int .i64 0) := (blk_cell BK345.out 0).trans rfl
     have hcz37_1 : w27.cell? ⟨gb345, 1, none⟩ = some (.int .i64 0) := (blk_cell BK345.out 1).trans rfl
     have hfz37_0 := blk_frozen BK345.out 0
     have hfz37_1 := blk_frozen BK345.out 1
     have hcz38_0 : w27.cell? ⟨gb335, 0, none⟩ = some (.int .i64 t332) := (blk_cell BK335.out 0).trans rfl
     have hcz38_1 : w27.cell? ⟨gb335, 1, none⟩ = some (.int .i64 t333) := (blk_cell BK335.out 1).trans rfl
     have hfz38_0 := blk_frozen BK335.out 0
     have hfz38_1 := blk_frozen BK335.out 1
     go_wp2_with (first | ((with_reducible refine gate_callee (f := 27) rfl ?_); refine goesL_ (some 46) rfl rfl Try.func27 (by kernel_rfl) rfl #[.agg #[.int .i64 t342, .int .i64 t343], .agg #[.int .i64 t332, .int .i64 t333]] rfl amp_ ?_; (with_reducible refine (laws_eqDiagonal.calls t342 t343 t332 t333 false _ A30.out).mono ?_); rintro e w39 ⟨rfl, hb⟩; refine ⟨_, rfl, ?_⟩; have n0_ := Aside0.mk (Kd.R_below (by (with_reducible repeat (first | apply Kd.R_alloc | apply Kd.R_drewN | apply Kd.R_drew)); exact (Kd.R_mono (Kd.R_far (p := ⟨gb345, 1, none⟩) (Kd.R_far (p := ⟨gb345, 0, none⟩) (Kd.R_mono HO328.out (fun k_ hk => (⟨hk, hk.2⟩ : _ ∧ k_ ≠ gb345))) (fun _ hk => hk.2) (.int .i64 t342)) (fun _ hk => hk.2) (.int .i64 t343)) (fun _ h_ => h_.1))) hb); have n1_ := Aside0.mk (Kd.R_below (by (with_reducible repeat (first | apply Kd.R_alloc | apply Kd.R_drewN | apply Kd.R_drew)); exact (Kd.R_mono (Kd.R_far (p := ⟨gb345, 1, none⟩) (Kd.R_far (p := ⟨gb345, 0, none⟩) (Kd.R_mono HO331.out (fun k_ hk => (⟨hk, hk.2⟩ : _ ∧ k_ ≠ gb345))) (fun _ hk => hk.2) (.int .i64 t342)) (fun _ hk => hk.2) (.int .i64 t343)) (fun _ h_ => h_.1))) hb); have n2_ := Aside0.mk (Kd.R_below (by (with_reducible repeat (first | apply Kd.R_alloc | apply Kd.R_drewN | apply Kd.R_drew)); exact (Kd.R_mono (Kd.R_far (p := ⟨gb345, 1, none⟩) (Kd.R_far (p := ⟨gb345, 0, none⟩) (Kd.R_mono HO338.out (fun k_ hk => (⟨hk, hk.2⟩ : _ ∧ k_ ≠ gb345))) (fun _ hk => hk.2) (.int .i64 t342)) (fun _ hk => hk.2) (.int .i64 t343)) (fun _ h_ => h_.1))) hb); have n3_ := Aside0.mk (Kd.R_below (by (with_reducible repeat (first | apply Kd.R_alloc | apply Kd.R_drewN | apply Kd.R_drew)); exact (Kd.R_mono (Kd.R_far (p := ⟨gb345, 1, none⟩) (Kd.R_far (p := ⟨gb345, 0, none⟩) (Kd.R_mono HO341.out (fun k_ hk => (⟨hk, hk.2⟩ : _ ∧ k_ ≠ gb345))) (fun _ hk => hk.2) (.int .i64 t342)) (fun _ hk => hk.2) (.int .i64 t343)) (fun _ h_ => h_.1))) hb); have n4_ := Aside0.mk (blk_below (g := gb335) (o := .cells #[.int .i64 t332, .int .i64 t333] 36 (0, 0)) (by (with_reducible repeat (first | refine blk_drewN ?_ _ | refine blk_drew ?_ | refine blk_alloc ?_ _)); refine blk_far ?_ NB335_345.out _; (with_reducible repeat (first | refine blk_drewN ?_ _ | refine blk_drew ?_ | refine blk_alloc ?_ _)); refine blk_far ?_ NB335_345.out _; (with_reducible repeat (first | refine blk_drewN ?_ _ | refine blk_drew ?_ | refine blk_alloc ?_ _)); exact BK335.out) hb); have n5_ := Aside0.mk (blk_below (g := gb345) (o := .cells #[.int .i64 t342, .int .i64 t343] 36 (0, 0)) (by (with_reducible repeat (first | refine blk_drewN ?_ _ | refine blk_drew ?_ | refine blk_alloc ?_ _)); refine blk_put (cs := #[.int .i64 t342, .int .i64 0]) ?_ 1 _ rfl; (with_reducible repeat (first | refine blk_drewN ?_ _ | refine blk_drew ?_ | refine blk_alloc ?_ _)); refine blk_put (cs := #[.int .i64 0, .int .i64 0]) ?_ 0 _ rfl; (with_reducible repeat (first | refine blk_drewN ?_ _ | refine blk_drew ?_ | refine blk_alloc ?_ _)); exact BK345.out) hb); have n6_ := Aside0.mk (below_step (by repeat (first | (with_reducible first | exact HB.out | apply below_alloc | apply pw_below_drewN | apply below_drew1 | refine below_set ?_ GE335.out | refine below_set ?_ GE345.out) | exact HB.out)) hb); clear HO328; clear HO331; clear HO338; clear HO341; clear BK335; clear BK345; clear HB; have HO328 := n0_; have HO331 := n1_; have HO338 := n2_; have HO341 := n3_; have BK335 := n4_; have BK345 := n5_; have HB := n6_; clear n0_ n1_ n2_ n3_ n4_ n5_ n6_; (try clear hb); (try clear hb2); (try clear hk); (try clear hi)))
     go_meet
     case rel => exact ⟨_, (true), (by first | rfl | (simp; done) | (simp [*]; done)), H', ⟨by first | omega | exact Nat.le_refl _⟩, ⟨by (with_reducible repeat (first | apply Kd.R_alloc | apply Kd.R_drewN | apply Kd.R_drew)); exact Kd.R_mono HO338.out (fun _ hk => ⟨hk.1.2, ⟨hk.1.1.2, hk.2⟩⟩)⟩, ⟨by (with_reducible repeat (first | apply Kd.R_alloc | apply Kd.R_drewN | apply Kd.R_drew)); exact Kd.R_mono HO341.out (fun _ hk => ⟨hk.1.1.2, ⟨hk.1.2, hk.2⟩⟩)⟩, ⟨bk_ BK335.out⟩, ⟨bk_ BK345.out⟩, ⟨by repeat (first | (with_reducible first | exact HB.out | apply below_alloc | apply pw_below_drewN | apply below_drew1 | refine below_set ?_ GE335.out | refine below_set ?_ GE345.out) | exact HB.out)⟩⟩
   case rest =>
    clear HC14
    try clear c1
    try clear c2
    try clear p2
    try clear c3
    try clear c4
    try clear c5
    try clear c5b0
    try clear c7
    try clear c7b0
    try clear c10
    try clear c20
    try clear c22
    try clear c27
    try clear c28
    try clear c31
    try clear c32
    try clear c36
    try clear c39
    try clear hcz21_0
    try clear hcz21_1
    try clear hcz29_0
    try clear hcz29_1
    try clear hcz33_0
    try clear hcz33_1
    try clear hcz34_0
    try clear hcz34_1
    try clear hcz37_0
    try clear hcz37_1
    try clear hcz38_0
    try clear hcz38_1
    try clear hfz21_0
    try clear hfz21_1
    try clear hfz29_0
    try clear hfz29_1
    try clear hfz33_0
    try clear hfz33_1
    try clear hfz34_0
    try clear hfz34_1
    try clear hfz37_0
    try clear hfz37_1
    try clear hfz38_0
    try clear hfz38_1
    obtain ⟨kq, x52_13, rfl, HA, HJ13, HO_10, HO_11, BK335, BK345, HB⟩ := hcut
    cases kq with
    | zero => exact absurd HA.out (by simp [laws_FnExactAreFlipApart.j0])
    | succ kj13 =>
     have H := HA.out
     clear HA
     simp only [laws_FnExactAreFlipApart.j0] at H
     by_cases c40 : x52_13 = true
     ·subst c40
      have H1 : (some false) = some r := by rw [if_pos rfl] at H; exact H
      clear H
      have H := H1
      clear H1
      exact absurd (H.trans (congrArg some htrue.out)) (by decide)
     ·replace c40 := Bool.eq_false_iff.mpr c40
      subst c40
      have H1 : ((laws_toDiagonalS.f kj13 l1).bind fun t347 => ((laws_eqDiagonalS.f kj13 t336 t347).bind fun t350 => (if t350 = true then ((laws_toDiagonalS.f kj13 l2).bind fun t351 => ((laws_eqDiagonalS.f kj13 t339 t351).bind fun t354 => (if t354 = true then (some true) else (some false)))) else (some false)))) = some r := by rw [if_neg (show ¬ (false = true) by decide)] at H; exact H
      clear H
      have H := H1
      clear H1
      replace H := Option.bind_eq_some_iff.mp H
      obtain ⟨t347, A410, H⟩ := H
      replace H : ((laws_eqDiagonalS.f kj13 t336 t347).bind fun t350 => (if t350 = true then ((laws_toDiagonalS.f kj13 l2).bind fun t351 => ((laws_eqDiagonalS.f kj13 t339 t351).bind fun t354 => (if t354 = true then (some true) else (some false)))) else (some false))) = some r := H
      have A41 := Aside0.mk A410
      clear A410
      replace H := Option.bind_eq_some_iff.mp H
      obtain ⟨t350, A420, H⟩ := H
      replace H : (if t350 = true then ((laws_toDiagonalS.f kj13 l2).bind fun t351 => ((laws_eqDiagonalS.f kj13 t339 t351).bind fun t354 => (if t354 = true then (some true) else (some false)))) else (some false)) = some r := H
      have A42 := Aside0.mk A420
      clear A420
      by_cases c43 : t350 = true
      ·subst c43
       have H1 : ((laws_toDiagonalS.f kj13 l2).bind fun t351 => ((laws_eqDiagonalS.f kj13 t339 t351).bind fun t354 => (if t354 = true then (some true) else (some false)))) = some r := by rw [if_pos rfl] at H; exact H
       clear H
       have H := H1
       clear H1
       replace H := Option.bind_eq_some_iff.mp H
       obtain ⟨t351, A440, H⟩ := H
       replace H : ((laws_eqDiagonalS.f kj13 t339 t351).bind fun t354 => (if t354 = true then (some true) else (some false))) = some r := H
       have A44 := Aside0.mk A440
       clear A440
       replace H := Option.bind_eq_some_iff.mp H
       obtain ⟨t354, A450, H⟩ := H
       replace H : (if t354 = true then (some true) else (some false)) = some r := H
       have A45 := Aside0.mk A450
       clear A450
       by_cases c46 : t354 = true
       ·subst c46
        have H1 : (some true) = some r := by rw [if_pos rfl] at H; exact H
        clear H
        have H := H1
        clear H1
        obtain rfl := Option.some.inj H
        go_wp2_with (first | ((with_reducible refine gate_callee (f := 22) rfl ?_); refine goesL_ (some 55) rfl rfl Try.func22 (by kernel_rfl) rfl #[.slice A1 l1.length c1] rfl amp_ ?_; (with_reducible refine (laws_toDiagonalS.calls kj13 _ _ l1 t347 _ ?side1 ?side2 A41.out).mono ?_); (case side1 => repeat (first | exact (Kd.C_below HR1.out HB.out) | (with_reducible refine Kd.C_alloc ?_ _) | (with_reducible refine Kd.C_drewN ?_ _) | (with_reducible refine Kd.C_drew ?_))); (case side2 => exact HC1.out); rintro e w47 ⟨v348, rfl, ho0, hb⟩; refine ⟨_, rfl, ?_⟩; have n0_ := Aside0.mk (Kd.R_elder' (ra_ HO_10.out) (Kd.R_base ho0) hb); have n1_ := Aside0.mk (Kd.R_elder' (ra_ HO_11.out) (Kd.R_base ho0) hb); have n2_ := Aside0.mk (Kd.R_lower (Kd.R_newB (Kd.R_newB (Kd.R_new' (Kd.R_new' ho0 (Kd.R_lt (ra_ HO_10.out))) (Kd.R_lt (ra_ HO_11.out))) (g := gb335) (o := .cells #[.int .i64 t332, .int .i64 t333] 36 (0, 0)) (bk_ BK335.out)) (g := gb345) (o := .cells #[.int .i64 t342, .int .i64 t343] 36 (0, 0)) (bk_ BK345.out)) (below_size (by repeat (first | (with_reducible first | exact HB.out | apply below_alloc | apply pw_below_drewN | apply below_drew1 | refine below_set ?_ GE335.out | refine below_set ?_ GE345.out) | exact HB.out)))); have n3_ := Aside0.mk (blk_below (g := gb335) (o := .cells #[.int .i64 t332, .int .i64 t333] 36 (0, 0)) (bk_ BK335.out) hb); have n4_ := Aside0.mk (blk_below (g := gb345) (o := .cells #[.int .i64 t342, .int .i64 t343] 36 (0, 0)) (bk_ BK345.out) hb); have n5_ := Aside0.mk (below_step (by repeat (first | (with_reducible first | exact HB.out | apply below_alloc | apply pw_below_drewN | apply below_drew1 | refine below_set ?_ GE335.out | refine below_set ?_ GE345.out) | exact HB.out)) hb); clear HO_10; clear HO_11; clear BK335; clear BK345; clear HB; have HO_10 := n0_; have HO_11 := n1_; have HO349 := n2_; have BK335 := n3_; have BK345 := n4_; have HB := n5_; clear n0_ n1_ n2_ n3_ n4_ n5_; (try clear hb); (try clear hb2); (try clear hk); (try clear hi); (try clear ho0); obtain ⟨Ao48, co48, eo48⟩ := Kd.R_slice HO349.out; subst eo48) | ((with_reducible refine gate_callee (f := 17) rfl ?_); refine goesL_ (some 56) rfl rfl Try.func17 (by kernel_rfl) rfl #[.slice Ao24 t336.length co24, .slice Ao48 t347.length co48] rfl amp_ ?_; (with_reducible refine (laws_eqDiagonalS.calls kj13 _ _ t336 _ _ t347 true _ ?side1 ?side2 ?side3 ?side4 A42.out).mono ?_); (case side1 => repeat (first | exact (Kd.R_reads' HO_10.out).2.2 | (with_reducible refine Kd.C_alloc ?_ _) | (with_reducible refine Kd.C_drewN ?_ _) | (with_reducible refine Kd.C_drew ?_))); (case side2 => exact (Kd.R_reads' HO_10.out).2.1); (case side3 => repeat (first | exact (Kd.R_reads' HO349.out).2.2 | (with_reducible refine Kd.C_alloc ?_ _) | (with_reducible refine Kd.C_drewN ?_ _) | (with_reducible refine Kd.C_drew ?_))); (case side4 => exact (Kd.R_reads' HO349.out).2.1); rintro e w49 ⟨rfl, hb⟩; refine ⟨_, rfl, ?_⟩; have n0_ := Aside0.mk (Kd.R_below (ra_ HO_10.out) hb); have n1_ := Aside0.mk (Kd.R_below (ra_ HO_11.out) hb); have n2_ := Aside0.mk (Kd.R_below (ra_ HO349.out) hb); have n3_ := Aside0.mk (blk_below (g := gb335) (o := .cells #[.int .i64 t332, .int .i64 t333] 36 (0, 0)) (bk_ BK335.out) hb); have n4_ := Aside0.mk (blk_below (g := gb345) (o := .cells #[.int .i64 t342, .int .i64 t343] 36 (0, 0)) (bk_ BK345.out) hb); have n5_ := Aside0.mk (below_step (by repeat (first | (with_reducible first | exact HB.out | apply below_alloc | apply pw_below_drewN | apply below_drew1 | refine below_set ?_ GE335.out | refine below_set ?_ GE345.out) | exact HB.out)) hb); clear HO_10; clear HO_11; clear HO349; clear BK335; clear BK345; clear HB; have HO_10 := n0_; have HO_11 := n1_; have HO349 := n2_; have BK335 := n3_; have BK345 := n4_; have HB := n5_; clear n0_ n1_ n2_ n3_ n4_ n5_; (try clear hb); (try clear hb2); (try clear hk); (try clear hi)) | ((with_reducible refine gate_callee (f := 22) rfl ?_); refine goesL_ (some 60) rfl rfl Try.func22 (by kernel_rfl) rfl #[.slice A2 l2.length c2] rfl amp_ ?_; (with_reducible refine (laws_toDiagonalS.calls kj13 _ _ l2 t351 _ ?side1 ?side2 A44.out).mono ?_); (case side1 => repeat (first | exact (Kd.C_below HR2.out HB.out) | (with_reducible refine Kd.C_alloc ?_ _) | (with_reducible refine Kd.C_drewN ?_ _) | (with_reducible refine Kd.C_drew ?_))); (case side2 => exact HC2.out); rintro e w50 ⟨v352, rfl, ho0, hb⟩; refine ⟨_, rfl, ?_⟩; have n0_ := Aside0.mk (Kd.R_elder' (ra_ HO_10.out) (Kd.R_base ho0) hb); have n1_ := Aside0.mk (Kd.R_elder' (ra_ HO_11.out) (Kd.R_base ho0) hb); have n2_ := Aside0.mk (Kd.R_elder' (ra_ HO349.out) (Kd.R_base ho0) hb); have n3_ := Aside0.mk (Kd.R_lower (Kd.R_newB (Kd.R_newB (Kd.R_new' (Kd.R_new' (Kd.R_new' ho0 (Kd.R_lt (ra_ HO_10.out))) (Kd.R_lt (ra_ HO_11.out))) (Kd.R_lt (ra_ HO349.out))) (g := gb335) (o := .cells #[.int .i64 t332, .int .i64 t333] 36 (0, 0)) (bk_ BK335.out)) (g := gb345) (o := .cells #[.int .i64 t342, .int .i64 t343] 36 (0, 0)) (bk_ BK345.out)) (below_size (by repeat (first | (with_reducible first | exact HB.out | apply below_alloc | apply pw_below_drewN | apply below_drew1 | refine below_set ?_ GE335.out | refine below_set ?_ GE345.out) | exact HB.out)))); have n4_ := Aside0.mk (blk_below (g := gb335) (o := .cells #[.int .i64 t332, .int .i64 t333] 36 (0, 0)) (bk_ BK335.out) hb); have n5_ := Aside0.mk (blk_below (g := gb345) (o := .cells #[.int .i64 t342, .int .i64 t343] 36 (0, 0)) (bk_ BK345.out) hb); have n6_ := Aside0.mk (below_step (by repeat (first | (with_reducible first | exact HB.out | apply below_alloc | apply pw_below_drewN | apply below_drew1 | refine below_set ?_ GE335.out | refine below_set ?_ GE345.out) | exact HB.out)) hb); clear HO_10; clear HO_11; clear HO349; clear BK335; clear BK345; clear HB; have HO_10 := n0_; have HO_11 := n1_; have HO349 := n2_; have HO353 := n3_; have BK335 := n4_; have BK345 := n5_; have HB := n6_; clear n0_ n1_ n2_ n3_ n4_ n5_ n6_; (try clear hb); (try clear hb2); (try clear hk); (try clear hi); (try clear ho0); obtain ⟨Ao51, co51, eo51⟩ := Kd.R_slice HO353.out; subst eo51) | ((with_reducible refine gate_callee (f := 17) rfl ?_); refine goesL_ (some 61) rfl rfl Try.func17 (by kernel_rfl) rfl #[.slice Ao25 t339.length co25, .slice Ao51 t351.length co51] rfl amp_ ?_; (with_reducible refine (laws_eqDiagonalS.calls kj13 _ _ t339 _ _ t351 true _ ?side1 ?side2 ?side3 ?side4 A45.out).mono ?_); (case side1 => repeat (first | exact (Kd.R_reads' HO_11.out).2.2 | (with_reducible refine Kd.C_alloc ?_ _) | (with_reducible refine Kd.C_drewN ?_ _) | (with_reducible refine Kd.C_drew ?_))); (case side2 => exact (Kd.R_reads' HO_11.out).2.1); (case side3 => repeat (first | exact (Kd.R_reads' HO353.out).2.2 | (with_reducible refine Kd.C_alloc ?_ _) | (with_reducible refine Kd.C_drewN ?_ _) | (with_reducible refine Kd.C_drew ?_))); (case side4 => exact (Kd.R_reads' HO353.out).2.1); rintro e w52 ⟨rfl, hb⟩; refine ⟨_, rfl, ?_⟩; have n0_ := Aside0.mk (Kd.R_below (ra_ HO_10.out) hb); have n1_ := Aside0.mk (Kd.R_below (ra_ HO_11.out) hb); have n2_ := Aside0.mk (Kd.R_below (ra_ HO349.out) hb); have n3_ := Aside0.mk (Kd.R_below (ra_ HO353.out) hb); have n4_ := Aside0.mk (blk_below (g := gb335) (o := .cells #[.int .i64 t332, .int .i64 t333] 36 (0, 0)) (bk_ BK335.out) hb); have n5_ := Aside0.mk (blk_below (g := gb345) (o := .cells #[.int .i64 t342, .int .i64 t343] 36 (0, 0)) (bk_ BK345.out) hb); have n6_ := Aside0.mk (below_step (by repeat (first | (with_reducible first | exact HB.out | apply below_alloc | apply pw_below_drewN | apply below_drew1 | refine below_set ?_ GE335.out | refine below_set ?_ GE345.out) | exact HB.out)) hb); clear HO_10; clear HO_11; clear HO349; clear HO353; clear BK335; clear BK345; clear HB; have HO_10 := n0_; have HO_11 := n1_; have HO349 := n2_; have HO353 := n3_; have BK335 := n4_; have BK345 := n5_; have HB := n6_; clear n0_ n1_ n2_ n3_ n4_ n5_ n6_; (try clear hb); (try clear hb2); (try clear hk); (try clear hi)))
        go_ret
        exact ⟨by first | rfl | (simp [errW_none, errW_some] <;> rfl) | (simp [*, errW_none, errW_some] <;> rfl), by repeat (first | (with_reducible first | exact HB.out | apply below_alloc | apply pw_below_drewN | apply below_drew1 | refine below_set ?_ GE335.out | refine below_set ?_ GE345.out) | exact HB.out)⟩
       ·replace c46 := Bool.eq_false_iff.mpr c46
        subst c46
        have H1 : (some false) = some r := by rw [if_neg (show ¬ (false = true) by decide)] at H; exact H
        clear H
        have H := H1
        clear H1
        exact absurd (H.trans (congrArg some htrue.out)) (by decide)
      ·replace c43 := Bool.eq_false_iff.mpr c43
       subst c43
       have H1 : (some false) = some r := by rw [if_neg (show ¬ (false = true) by decide)] at H; exact H
       clear H
       have H := H1
       clear H1
       exact absurd (H.trans (congrArg some htrue.out)) (by decide)

end Go.Proofs.Ytkipgbakoljaeaa.PFnExactAreFlipApart
