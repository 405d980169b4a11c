-- WRITTEN BY A PROGRAM OF THIS WORK (wip/tools/ppatch.py) for this claim.
import Derived.Test.YtkipgbakoljaeaaPFnExactFirstFinerx0
import Derived.Test.YtkipgbakoljaeaaPFnExactFirstFinerx1
import Derived.Test.YtkipgbakoljaeaaPFnExactFirstFinerx8
import Derived.Test.YtkipgbakoljaeaaPFnExactFirstFinerx9
import Derived.Test.YtkipgbakoljaeaaPFnExactFirstFinerx10
import Derived.Test.YtkipgbakoljaeaaPFnExactFirstFinerx12
namespace Go.Proofs.Ytkipgbakoljaeaa.PFnExactFirstFiner
open Go.RowKit Go.Proofs.YtkipgbakoljaeaaW.PrintWords Go.Proofs.YtkipgbakoljaeaaW.PrintLast Go.Proofs.YtkipgbakoljaeaaW.PrintMore
attribute [local go_sem] max2_int min2_int max_two min_two max_three min_three max_four min_four   -- for this text's walks alone
set_option linter.unusedVariables false
set_option linter.unusedSimpArgs false

attribute [local go_sem high] eqA36
/-! ### impl_Diagonal_115: function 115 -/
def impl_Diagonal_115.l0 : Nat → List (S36) → Int → Int → Int → Int → Option (Int)
 | 0, _, _, _, _, _ => none
 | k + 1, x0, x7, x8, x291000, x291001 => if x8 < x7 then (if 0 ≤ x8 then (if x8 < (x0.length : Int) then (if (x291000 == ((rd_T36 x0 x8).f0) && (x291001 == ((rd_T36 x0 x8).f1))) = true then (some x8) else (impl_Diagonal_115.l0 k x0 x7 (wrap64 (x8 + 1)) x291000 x291001)) else (none)) else (none)) else (some (-1))
def impl_Diagonal_115.f (k : Nat) (l0 : List (S36)) (a1_0 : Int) (a1_1 : Int) : Option (Int) := impl_Diagonal_115.l0 k l0 (l0.length : Int) 0 a1_0 a1_1
theorem impl_Diagonal_115.mono_l : ∀ k, (∀ y0 y1 y2 y3 y4, LeO (impl_Diagonal_115.l0 k y0 y1 y2 y3 y4) (impl_Diagonal_115.l0 (k + 1) y0 y1 y2 y3 y4))
 | 0 => fun _ _ _ _ _ r h => by simp [impl_Diagonal_115.l0] at h
 | k + 1 => by
  have ih0 := impl_Diagonal_115.mono_l k
  ·intro y0 y1 y2 y3 y4
   unfold impl_Diagonal_115.l0
   repeat' first
   | (with_reducible exact ih0 _ _ _ _ _)
   | (with_reducible exact LeO.refl _)
   | (with_reducible exact LeO.none _)
   | (with_reducible refine LeO.ite ?_ ?_)
   | (with_reducible refine LeO.bind ?_ (fun _ => ?_))
   | exact ih0 _ _ _ _ _
   | exact LeO.none _
   | refine LeO.ite ?_ ?_
   | refine LeO.bind ?_ (fun _ => ?_)
theorem impl_Diagonal_115.mono : ∀ a0 a1 a2 k, LeO (impl_Diagonal_115.f k a0 a1 a2) (impl_Diagonal_115.f (k + 1) a0 a1 a2) := by
 intro a0 a1 a2 k
 have ih0 := impl_Diagonal_115.mono_l k
 unfold impl_Diagonal_115.f
 repeat' first
   | (with_reducible exact ih0 _ _ _ _ _)
   | (with_reducible exact LeO.refl _)
   | (with_reducible exact LeO.none _)
   | (with_reducible refine LeO.ite ?_ ?_)
   | (with_reducible refine LeO.bind ?_ (fun _ => ?_))
   | exact ih0 _ _ _ _ _
   | exact LeO.none _
   | refine LeO.ite ?_ ?_
   | refine LeO.bind ?_ (fun _ => ?_)
set_option maxHeartbeats 8000000 in
set_option maxRecDepth 100000 in
theorem impl_Diagonal_115.calls (k : Nat) (A0 : Option Addr) (c0 : Nat) (l0 : List (S36)) (a1_0 : Int) (a1_1 : Int) (r : Int) (w : World) (hr0 : Kd.C k36 w A0 l0.length l0) (hc0 : l0.length ≤ c0) (h : impl_Diagonal_115.f k l0 a1_0 a1_1 = some r) :
  Calls Try.prog 115 #[.slice A0 l0.length c0, .agg #[.int .i64 a1_0, .int .i64 a1_1]] w fun e w' => e = .returned (.int .i64 r) ∧ Below w.heap.size w w' := by
 have hu36 := Try.underlying36
 have HR0 := Aside0.mk hr0
 have HC0 := Aside0.mk hc0
 clear hr0 hc0
 have HB := Aside0.mk (Below.refl w.heap.size w)
 have H : (impl_Diagonal_115.l0 k l0 (l0.length : Int) 0 a1_0 a1_1) = some r := h
 clear h
 have H' := Aside0.mk H
 clear H
 go_enter Try.func115, Try.ntmps115
 go_wp2_with (first | ((with_reducible refine gate_dst (N := 3) rfl ?_); refine box_event ?hg (N := 3) ?hd (cs := #[.int .i64 a1_0, .int .i64 a1_1]) (t := 36) ?hr ?_; (case hd => rfl); (case hg => rfl); (case hr => first | (go_simp; done) | (go_simp; rfl)); intro gb290 hg w3 hbox hb; have n0_ := Aside0.mk (below_step blw_ hb); have n1_ := Aside0.mk (hbox); have n2_ := Aside0.mk ((by rw [hg]; exact (below_size blw_) : w.heap.size ≤ gb290)); have n3_ := Aside0.mk ((by rw [hg]; exact (below_size blw_) : w.heap.size ≤ gb290)); clear HB; have HB := n0_; have BK290 := n1_; have GW290 := n2_; have GE290 := n3_; clear n0_ n1_ n2_ n3_; clear hb hbox hg))
 repeat (go_quiet (first | ((with_reducible refine gate_dst (N := 3) rfl ?_); refine box_event ?hg (N := 3) ?hd (cs := #[.int .i64 a1_0, .int .i64 a1_1]) (t := 36) ?hr ?_; (case hd => rfl); (case hg => rfl); (case hr => first | (go_simp; done) | (go_simp; rfl)); intro gb290 hg w3 hbox hb; have n0_ := Aside0.mk (below_step blw_ hb); have n1_ := Aside0.mk (hbox); have n2_ := Aside0.mk ((by rw [hg]; exact (below_size blw_) : w.heap.size ≤ gb290)); have n3_ := Aside0.mk ((by rw [hg]; exact (below_size blw_) : w.heap.size ≤ gb290)); clear HB; have HB := n0_; have BK290 := n1_; have GW290 := n2_; have GE290 := n3_; clear n0_ n1_ n2_ n3_; clear hb hbox hg)); try go_wp2_with (first | ((with_reducible refine gate_dst (N := 3) rfl ?_); refine box_event ?hg (N := 3) ?hd (cs := #[.int .i64 a1_0, .int .i64 a1_1]) (t := 36) ?hr ?_; (case hd => rfl); (case hg => rfl); (case hr => first | (go_simp; done) | (go_simp; rfl)); intro gb290 hg w3 hbox hb; have n0_ := Aside0.mk (below_step blw_ hb); have n1_ := Aside0.mk (hbox); have n2_ := Aside0.mk ((by rw [hg]; exact (below_size blw_) : w.heap.size ≤ gb290)); have n3_ := Aside0.mk ((by rw [hg]; exact (below_size blw_) : w.heap.size ≤ gb290)); clear HB; have HB := n0_; have BK290 := n1_; have GW290 := n2_; have GE290 := n3_; clear n0_ n1_ n2_ n3_; clear hb hbox hg)))
 go_loopg [8] k (fun kq v8 w' => ∃ (x8_1 : Int), v8 = .int .i64 x8_1 ∧ Aside0 (impl_Diagonal_115.l0 kq l0 (l0.length : Int) x8_1 a1_0 a1_1 = some r) ∧ Aside0 (kq ≤ k) ∧ Aside0 (w'.heap[gb290]? = some (.cells #[.int .i64 a1_0, .int .i64 a1_1] 36 (0, 0))) ∧ Aside0 (Below w.heap.size w w'))
 case atStart => exact ⟨(0), (by first | rfl | (simp; done) | (simp [*]; done)), H', ⟨Nat.le_refl _⟩, ⟨bk_ BK290.out⟩, ⟨by repeat (first | (with_reducible first | exact HB.out | apply below_alloc | apply pw_below_drewN | apply below_drew1 | refine below_set ?_ GE290.out) | exact HB.out)⟩⟩
 case round =>
  clear H'
  try clear c1
  try clear p2
  obtain ⟨x8_1, rfl, HA, HK1, BK290, HB⟩ := hrel
  cases gk with
  | zero => exact absurd HA.out (by simp [impl_Diagonal_115.l0])
  | succ k1 =>
   have H := HA.out
   clear HA
   simp only [impl_Diagonal_115.l0] at H
   by_cases c4 : x8_1 < (l0.length : Int)
   ·rw [if_pos c4] at H
    have c4b0 : decide (x8_1 < (l0.length : Int)) = true := decide_eq_true c4
    clear c4
    by_cases c5 : 0 ≤ x8_1
    ·rw [if_pos c5] at H
     have c5b0 : decide (0 ≤ x8_1) = true := decide_eq_true c5
     clear c5
     by_cases c6 : x8_1 < (l0.length : Int)
     ·rw [if_pos c6] at H
      have c6b0 : decide (x8_1 < (l0.length : Int)) = true := decide_eq_true c6
      clear c6
      by_cases c7 : (a1_0 == ((rd_T36 l0 x8_1).f0) && (a1_1 == ((rd_T36 l0 x8_1).f1))) = true
      ·rw [if_pos c7] at H
       have c7b0 : (a1_0 == ((rd_T36 l0 x8_1).f0) && (a1_1 == ((rd_T36 l0 x8_1).f1))) = true := c7
       (try (have c7b1 : decide (a1_0 = ((rd_T36 l0 x8_1).f0) && (a1_1 == ((rd_T36 l0 x8_1).f1))) = true := by simpa using c7))
       (try (have c7b2 : (a1_0 == ((rd_T36 l0 x8_1).f0) && (a1_1 == ((rd_T36 l0 x8_1).f1))) = true := by simpa using c7))
       clear c7
       obtain rfl := Option.some.inj H
       have hcz8_0 : wr.cell? ⟨gb290, 0, none⟩ = some (.int .i64 a1_0) := (blk_cell BK290.out 0).trans rfl
       have hcz8_1 : wr.cell? ⟨gb290, 1, none⟩ = some (.int .i64 a1_1) := (blk_cell BK290.out 1).trans rfl
       have hfz8_0 := blk_frozen BK290.out 0
       have hfz8_1 := blk_frozen BK290.out 1
       have p291 : 0 ≤ (x8_1 : Int) := odt_
       have q291 : x8_1 < (l0.length : Int) := odt_
       obtain ⟨ad291, e291, hx291_0, hx291_1⟩ := at_T36 HR0.out x8_1 p291 q291
       cases e291
       (first | replace hx291_0 := (HB.out.cell (World.block_lt_of_cell? w _ hx291_0)).trans hx291_0 | skip)
       (first | replace hx291_1 := (HB.out.cell (World.block_lt_of_cell? w _ hx291_1)).trans hx291_1 | skip)
       replace p291 := eq_true p291
       replace q291 := eq_true q291
       go_wp2
       repeat (go_quiet (fail); try go_wp2)
       go_ret
       exact ⟨by first | rfl | (simp [errW_none, errW_some] <;> rfl) | (simp [*, errW_none, errW_some] <;> rfl), by repeat (first | (with_reducible first | exact HB.out | apply below_alloc | apply pw_below_drewN | apply below_drew1 | refine below_set ?_ GE290.out) | exact HB.out)⟩
      ·rw [if_neg c7] at H
       have c7b0 : (a1_0 == ((rd_T36 l0 x8_1).f0) && (a1_1 == ((rd_T36 l0 x8_1).f1))) = false := by simpa using c7
       (try (have c7b1 : decide (a1_0 = ((rd_T36 l0 x8_1).f0) && (a1_1 == ((rd_T36 l0 x8_1).f1))) = false := by simpa using c7))
       (try (have c7b2 : (a1_0 == ((rd_T36 l0 x8_1).f0) && (a1_1 == ((rd_T36 l0 x8_1).f1))) = false := by simpa using c7))
       (try (have c7b3 : ¬ (a1_0 = ((rd_T36 l0 x8_1).f0) && (a1_1 == ((rd_T36 l0 x8_1).f1))) := by simpa using c7))
       clear c7
       have H' := Aside0.mk H
       clear H
       have hcz9_0 : wr.cell? ⟨gb290, 0, none⟩ = some (.int .i64 a1_0) := (blk_cell BK290.out 0).trans rfl
       have hcz9_1 : wr.cell? ⟨gb290, 1, none⟩ = some (.int .i64 a1_1) := (blk_cell BK290.out 1).trans rfl
       have hfz9_0 := blk_frozen BK290.out 0
       have hfz9_1 := blk_frozen BK290.out 1
       have p291 : 0 ≤ (x8_1 : Int) := odt_
       have q291 : x8_1 < (l0.length : Int) := odt_
       obtain ⟨ad291, e291, hx291_0, hx291_1⟩ := at_T36 HR0.out x8_1 p291 q291
       cases e291
       (first | replace hx291_0 := (HB.out.cell (World.block_lt_of_cell? w _ hx291_0)).trans hx291_0 | skip)
       (first | replace hx291_1 := (HB.out.cell (World.block_lt_of_cell? w _ hx291_1)).trans hx291_1 | skip)
       replace p291 := eq_true p291
       replace q291 := eq_true q291
       go_wp2
       repeat (go_quiet (fail); try go_wp2)
       go_roundg k1
       case measure => have := HK1.out; omega
       case rel => exact ⟨(wrap64 (x8_1 + 1)), (by first | rfl | (simp; done) | (simp [*]; done)), H', ⟨by have := HK1.out; omega⟩, ⟨bk_ BK290.out⟩, ⟨by repeat (first | (with_reducible first | exact HB.out | apply below_alloc | apply pw_below_drewN | apply below_drew1 | refine below_set ?_ GE290.out) | exact HB.out)⟩⟩
     ·rw [if_neg c6] at H
      exact absurd H (by simp)
    ·rw [if_neg c5] at H
     exact absurd H (by simp)
   ·rw [if_neg c4] at H
    have c4b0 : decide (x8_1 < (l0.length : Int)) = false := decide_eq_false c4
    clear c4
    obtain rfl := Option.some.inj H
    go_wp2
    repeat (go_quiet (fail); try go_wp2)
    go_ret
    exact ⟨by first | rfl | (simp [errW_none, errW_some] <;> rfl) | (simp [*, errW_none, errW_some] <;> rfl), by repeat (first | (with_reducible first | exact HB.out | apply below_alloc | apply pw_below_drewN | apply below_drew1 | refine below_set ?_ GE290.out) | exact HB.out)⟩

/-! ### impl_Diagonal_88: function 88 -/
def impl_Diagonal_88.f (k : Nat) (l0 : List (S36)) (a1_0 : Int) (a1_1 : Int) : Option (Bool) := (impl_Diagonal_115.f k l0 a1_0 a1_1).bind fun t293 => (some (decide (t293 ≥ 0)))
theorem impl_Diagonal_88.mono : ∀ a0 a1 a2 k, LeO (impl_Diagonal_88.f k a0 a1 a2) (impl_Diagonal_88.f (k + 1) a0 a1 a2) := by
 intro a0 a1 a2 k
 unfold impl_Diagonal_88.f
 repeat' first
   | (with_reducible exact impl_Diagonal_115.mono _ _ _ _)
   | (with_reducible exact LeO.refl _)
   | (with_reducible exact LeO.none _)
   | (with_reducible refine LeO.ite ?_ ?_)
   | (with_reducible refine LeO.bind ?_ (fun _ => ?_))
   | exact impl_Diagonal_115.mono _ _ _ _
   | exact LeO.none _
   | refine LeO.ite ?_ ?_
   | refine LeO.bind ?_ (fun _ => ?_)
set_option maxHeartbeats 8000000 in
set_option maxRecDepth 100000 in
theorem impl_Diagonal_88.calls (k : Nat) (A0 : Option Addr) (c0 : Nat) (l0 : List (S36)) (a1_0 : Int) (a1_1 : Int) (r : Bool) (w : World) (hr0 : Kd.C k36 w A0 l0.length l0) (hc0 : l0.length ≤ c0) (h : impl_Diagonal_88.f k l0 a1_0 a1_1 = some r) :
  Calls Try.prog 88 #[.slice A0 l0.length c0, .agg #[.int .i64 a1_0, .int .i64 a1_1]] w fun e w' => e = .returned (.bool r) ∧ Below w.heap.size w w' := by
 have hu36 := Try.underlying36
 have HR0 := Aside0.mk hr0
 have HC0 := Aside0.mk hc0
 clear hr0 hc0
 have HB := Aside0.mk (Below.refl w.heap.size w)
 have H : ((impl_Diagonal_115.f k l0 a1_0 a1_1).bind fun t293 => (some (decide (t293 ≥ 0)))) = some r := h
 clear h
 replace H := Option.bind_eq_some_iff.mp H
 obtain ⟨t293, A30, H⟩ := H
 replace H : (some (decide (t293 ≥ 0))) = some r := H
 have A3 := Aside0.mk A30
 clear A30
 obtain rfl := Option.some.inj H
 go_enter Try.func88, Try.ntmps88
 go_wp2_with (first | ((with_reducible refine gate_dst (N := 3) rfl ?_); refine box_event ?hg (N := 3) ?hd (cs := #[.int .i64 a1_0, .int .i64 a1_1]) (t := 36) ?hr ?_; (case hd => rfl); (case hg => rfl); (case hr => first | (go_simp; done) | (go_simp; rfl)); intro gb292 hg w4 hbox hb; have n0_ := Aside0.mk (below_step blw_ hb); have n1_ := Aside0.mk (hbox); have n2_ := Aside0.mk ((by rw [hg]; exact (below_size blw_) : w.heap.size ≤ gb292)); have n3_ := Aside0.mk ((by rw [hg]; exact (below_size blw_) : w.heap.size ≤ gb292)); clear HB; have HB := n0_; have BK292 := n1_; have GW292 := n2_; have GE292 := n3_; clear n0_ n1_ n2_ n3_; clear hb hbox hg; have hcz5_0 : w4.cell? ⟨gb292, 0, none⟩ = some (.int .i64 a1_0) := (blk_cell BK292.out 0).trans rfl; have hcz5_1 : w4.cell? ⟨gb292, 1, none⟩ = some (.int .i64 a1_1) := (blk_cell BK292.out 1).trans rfl; have hfz5_0 := blk_frozen BK292.out 0; have hfz5_1 := blk_frozen BK292.out 1) | ((with_reducible refine gate_callee (f := 115) rfl ?_); refine goesL_ (some 7) rfl rfl Try.func115 (by kernel_rfl) rfl #[.slice A0 l0.length c0, .agg #[.int .i64 a1_0, .int .i64 a1_1]] rfl amp_ ?_; (with_reducible refine (impl_Diagonal_115.calls k _ _ l0 a1_0 a1_1 t293 _ ?side1 ?side2 A3.out).mono ?_); (case side1 => repeat (first | exact (Kd.C_below HR0.out HB.out) | (with_reducible refine Kd.C_alloc ?_ _) | (with_reducible refine Kd.C_drewN ?_ _) | (with_reducible refine Kd.C_drew ?_))); (case side2 => exact HC0.out); rintro e w6 ⟨rfl, hb⟩; refine ⟨_, rfl, ?_⟩; have n0_ := Aside0.mk (blk_below (g := gb292) (o := .cells #[.int .i64 a1_0, .int .i64 a1_1] 36 (0, 0)) (bk_ BK292.out) hb); have n1_ := Aside0.mk (below_step (by repeat (first | (with_reducible first | exact HB.out | apply below_alloc | apply pw_below_drewN | apply below_drew1 | refine below_set ?_ GE292.out) | exact HB.out)) hb); clear BK292; clear HB; have BK292 := n0_; have HB := n1_; clear n0_ n1_; (try clear hb); (try clear hb2); (try clear hk); (try clear hi)))
 go_ret
 exact ⟨by first | rfl | (simp [errW_none, errW_some] <;> rfl) | (simp [*, errW_none, errW_some] <;> rfl), by repeat (first | (with_reducible first | exact HB.out | apply below_alloc | apply pw_below_drewN | apply below_drew1 | refine below_set ?_ GE292.out) | exact HB.out)⟩

-- TOLD FOR impl_freeDiagonals_1_s5: impl.freeDiagonals$1 | 
/-! ### impl_freeDiagonals_1_s5: function 100005 -/
def impl_freeDiagonals_1_s5.f (k : Nat) (a0_0 : Int) (a0_1 : Int) (l1_0_0 : List (S36)) : Option (Bool) := (impl_Diagonal_88.f k l1_0_0 a0_0 a0_1).bind fun t295 => (if t295 = true then (some true) else ((impl_crosses.f k l1_0_0 a0_0 a0_1).bind fun t296 => (some t296)))
theorem impl_freeDiagonals_1_s5.mono : ∀ a0 a1 a2 k, LeO (impl_freeDiagonals_1_s5.f k a0 a1 a2) (impl_freeDiagonals_1_s5.f (k + 1) a0 a1 a2) := by
 intro a0 a1 a2 k
 unfold impl_freeDiagonals_1_s5.f
 repeat' first
   | (with_reducible exact impl_Diagonal_88.mono _ _ _ _)
   | (with_reducible exact impl_crosses.mono _ _ _ _)
   | (with_reducible exact LeO.refl _)
   | (with_reducible exact LeO.none _)
   | (with_reducible refine LeO.ite ?_ ?_)
   | (with_reducible refine LeO.bind ?_ (fun _ => ?_))
   | exact impl_Diagonal_88.mono _ _ _ _
   | exact impl_crosses.mono _ _ _ _
   | exact LeO.none _
   | refine LeO.ite ?_ ?_
   | refine LeO.bind ?_ (fun _ => ?_)
set_option maxHeartbeats 8000000 in
set_option maxRecDepth 100000 in
theorem impl_freeDiagonals_1_s5.calls (k : Nat) (a0_0 : Int) (a0_1 : Int) (gc1_0 : Nat) (A1_0_0 : Option Addr) (c1_0_0 : Nat) (l1_0_0 : List (S36)) (r : Bool) (w : World) (hb1_0 : w.heap[gc1_0]? = some (.cells #[.slice A1_0_0 l1_0_0.length c1_0_0] 22 (0, 0))) (hr1_0_0 : Kd.C k36 w A1_0_0 l1_0_0.length l1_0_0) (hc1_0_0 : l1_0_0.length ≤ c1_0_0) (h : impl_freeDiagonals_1_s5.f k a0_0 a0_1 l1_0_0 = some r) :
  Calls Try.prog 117 #[.agg #[.int .i64 a0_0, .int .i64 a0_1], .pointer (some ⟨gc1_0, 0, none⟩)] w fun e w' => e = .returned (.bool r) ∧ Below w.heap.size w w' := by
 have hu36 := Try.underlying36
 have HR1_0_0 := Aside0.mk hr1_0_0
 have HC1_0_0 := Aside0.mk hc1_0_0
 clear hr1_0_0 hc1_0_0
 have BK20 := Aside0.mk hb1_0
 clear hb1_0
 have HB := Aside0.mk (Below.refl w.heap.size w)
 have H : ((impl_Diagonal_88.f k l1_0_0 a0_0 a0_1).bind fun t295 => (if t295 = true then (some true) else ((impl_crosses.f k l1_0_0 a0_0 a0_1).bind fun t296 => (some t296)))) = some r := h
 clear h
 replace H := Option.bind_eq_some_iff.mp H
 obtain ⟨t295, A30, H⟩ := H
 replace H : (if t295 = true then (some true) else ((impl_crosses.f k l1_0_0 a0_0 a0_1).bind fun t296 => (some t296))) = some r := H
 have A3 := Aside0.mk A30
 clear A30
 by_cases c4 : t295 = true
 ·subst c4
  have H1 : (some true) = some r := by rw [if_pos rfl] at H; exact H
  clear H
  have H := H1
  clear H1
  obtain rfl := Option.some.inj H
  go_enter Try.func117, Try.ntmps117
  go_wp2_with (first | ((with_reducible refine gate_dst (N := 2) rfl ?_); refine box_event ?hg (N := 2) ?hd (cs := #[.int .i64 a0_0, .int .i64 a0_1]) (t := 36) ?hr ?_; (case hd => rfl); (case hg => rfl); (case hr => first | (go_simp; done) | (go_simp; rfl)); intro gb294 hg w5 hbox hb; have n0_ := Aside0.mk (blk_below (g := gc1_0) (o := .cells #[.slice A1_0_0 l1_0_0.length c1_0_0] 22 (0, 0)) (bk_ BK20.out) hb); have n1_ := Aside0.mk (below_step (by repeat (first | (with_reducible first | exact HB.out | apply below_alloc | apply pw_below_drewN | apply below_drew1 | refine below_set ?_ GE20.out) | exact HB.out)) hb); have n2_ := Aside0.mk (hbox); have n3_ := Aside0.mk ((by rw [hg]; exact (below_size (by repeat (first | (with_reducible first | exact HB.out | apply below_alloc | apply pw_below_drewN | apply below_drew1 | refine below_set ?_ GE20.out) | exact HB.out))) : w.heap.size ≤ gb294)); have n4_ := Aside0.mk ((by rw [hg]; exact (below_size (by repeat (first | (with_reducible first | exact HB.out | apply below_alloc | apply pw_below_drewN | apply below_drew1 | refine below_set ?_ GE20.out) | exact HB.out))) : w.heap.size ≤ gb294)); have n5_ := Aside0.mk ((by rw [hg]; exact Nat.ne_of_lt (blk_lt (g := gc1_0) (o := .cells #[.slice A1_0_0 l1_0_0.length c1_0_0] 22 (0, 0)) (bk_ BK20.out)) : gc1_0 ≠ gb294)); have n6_ := Aside0.mk ((by rw [hg]; exact Nat.ne_of_gt (blk_lt (g := gc1_0) (o := .cells #[.slice A1_0_0 l1_0_0.length c1_0_0] 22 (0, 0)) (bk_ BK20.out)) : gb294 ≠ gc1_0)); clear BK20; clear HB; have BK20 := n0_; have HB := n1_; have BK294 := n2_; have GW294 := n3_; have GE294 := n4_; have NB20_294 := n5_; have NB294_20 := n6_; clear n0_ n1_ n2_ n3_ n4_ n5_ n6_; clear hb hbox hg; have hnb6 := NB20_294.out; have hnc6 := NB294_20.out; have hcz7_0 : w5.cell? ⟨gc1_0, 0, none⟩ = some (.slice A1_0_0 l1_0_0.length c1_0_0) := (blk_cell BK20.out 0).trans rfl; have hfz7_0 := blk_frozen BK20.out 0; have hcz8_0 : w5.cell? ⟨gb294, 0, none⟩ = some (.int .i64 a0_0) := (blk_cell BK294.out 0).trans rfl; have hcz8_1 : w5.cell? ⟨gb294, 1, none⟩ = some (.int .i64 a0_1) := (blk_cell BK294.out 1).trans rfl; have hfz8_0 := blk_frozen BK294.out 0; have hfz8_1 := blk_frozen BK294.out 1) | ((with_reducible refine gate_callee (f := 88) rfl ?_); refine goesL_ (some 6) rfl rfl Try.func88 (by kernel_rfl) rfl #[.slice A1_0_0 l1_0_0.length c1_0_0, .agg #[.int .i64 a0_0, .int .i64 a0_1]] rfl amp_ ?_; (with_reducible refine (impl_Diagonal_88.calls k _ _ l1_0_0 a0_0 a0_1 true _ ?side1 ?side2 A3.out).mono ?_); (case side1 => repeat (first | exact (Kd.C_below HR1_0_0.out HB.out) | (with_reducible refine Kd.C_alloc ?_ _) | (with_reducible refine Kd.C_drewN ?_ _) | (with_reducible refine Kd.C_drew ?_))); (case side2 => exact HC1_0_0.out); rintro e w9 ⟨rfl, hb⟩; refine ⟨_, rfl, ?_⟩; have n0_ := Aside0.mk (blk_below (g := gc1_0) (o := .cells #[.slice A1_0_0 l1_0_0.length c1_0_0] 22 (0, 0)) (bk_ BK20.out) hb); have n1_ := Aside0.mk (blk_below (g := gb294) (o := .cells #[.int .i64 a0_0, .int .i64 a0_1] 36 (0, 0)) (bk_ BK294.out) hb); have n2_ := Aside0.mk (below_step (by repeat (first | (with_reducible first | exact HB.out | apply below_alloc | apply pw_below_drewN | apply below_drew1 | refine below_set ?_ GE20.out | refine below_set ?_ GE294.out) | exact HB.out)) hb); clear BK20; clear BK294; clear HB; have BK20 := n0_; have BK294 := n1_; have HB := n2_; clear n0_ n1_ n2_; (try clear hb); (try clear hb2); (try clear hk); (try clear hi)))
  go_ret
  exact ⟨by first | rfl | (simp [errW_none, errW_some] <;> rfl) | (simp [*, errW_none, errW_some] <;> rfl), by repeat (first | (with_reducible first | exact HB.out | apply below_alloc | apply pw_below_drewN | apply below_drew1 | refine below_set ?_ GE20.out | refine below_set ?_ GE294.out) | exact HB.out)⟩
 ·replace c4 := Bool.eq_false_iff.mpr c4
  subst c4
  have H1 : ((impl_crosses.f k l1_0_0 a0_0 a0_1).bind fun t296 => (some t296)) = some r := by rw [if_neg (show ¬ (false = true) by decide)] at H; exact H
  clear H
  have H := H1
  clear H1
  replace H := Option.bind_eq_some_iff.mp H
  obtain ⟨t296, A100, H⟩ := H
  replace H : (some t296) = some r := H
  have A10 := Aside0.mk A100
  clear A100
  obtain rfl := Option.some.inj H
  go_enter Try.func117, Try.ntmps117
  go_wp2_with (first | ((with_reducible refine gate_dst (N := 2) rfl ?_); refine box_event ?hg (N := 2) ?hd (cs := #[.int .i64 a0_0, .int .i64 a0_1]) (t := 36) ?hr ?_; (case hd => rfl); (case hg => rfl); (case hr => first | (go_simp; done) | (go_simp; rfl)); intro gb294 hg w11 hbox hb; have n0_ := Aside0.mk (blk_below (g := gc1_0) (o := .cells #[.slice A1_0_0 l1_0_0.length c1_0_0] 22 (0, 0)) (bk_ BK20.out) hb); have n1_ := Aside0.mk (below_step (by repeat (first | (with_reducible first | exact HB.out | apply below_alloc | apply pw_below_drewN | apply below_drew1 | refine below_set ?_ GE20.out) | exact HB.out)) hb); have n2_ := Aside0.mk (hbox); have n3_ := Aside0.mk ((by rw [hg]; exact (below_size (by repeat (first | (with_reducible first | exact HB.out | apply below_alloc | apply pw_below_drewN | apply below_drew1 | refine below_set ?_ GE20.out) | exact HB.out))) : w.heap.size ≤ gb294)); have n4_ := Aside0.mk ((by rw [hg]; exact (below_size (by repeat (first | (with_reducible first | exact HB.out | apply below_alloc | apply pw_below_drewN | apply below_drew1 | refine below_set ?_ GE20.out) | exact HB.out))) : w.heap.size ≤ gb294)); have n5_ := Aside0.mk ((by rw [hg]; exact Nat.ne_of_lt (blk_lt (g := gc1_0) (o := .cells #[.slice A1_0_0 l1_0_0.length c1_0_0] 22 (0, 0)) (bk_ BK20.out)) : gc1_0 ≠ gb294)); have n6_ := Aside0.mk ((by rw [hg]; exact Nat.ne_of_gt (blk_lt (g := gc1_0) (o := .cells #[.slice A1_0_0 l1_0_0.length c1_0_0] 22 (0, 0)) (bk_ BK20.out)) : gb294 ≠ gc1_0)); clear BK20; clear HB; have BK20 := n0_; have HB := n1_; have BK294 := n2_; have GW294 := n3_; have GE294 := n4_; have NB20_294 := n5_; have NB294_20 := n6_; clear n0_ n1_ n2_ n3_ n4_ n5_ n6_; clear hb hbox hg; have hnb12 := NB20_294.out; have hnc12 := NB294_20.out; have hcz13_0 : w11.cell? ⟨gc1_0, 0, none⟩ = some (.slice A1_0_0 l1_0_0.length c1_0_0) := (blk_cell BK20.out 0).trans rfl; have hfz13_0 := blk_frozen BK20.out 0; have hcz14_0 : w11.cell? ⟨gb294, 0, none⟩ = some (.int .i64 a0_0) := (blk_cell BK294.out 0).trans rfl; have hcz14_1 : w11.cell? ⟨gb294, 1, none⟩ = some (.int .i64 a0_1) := (blk_cell BK294.out 1).trans rfl; have hfz14_0 := blk_frozen BK294.out 0; have hfz14_1 := blk_frozen BK294.out 1) | ((with_reducible refine gate_callee (f := 88) rfl ?_); refine goesL_ (some 6) rfl rfl Try.func88 (by kernel_rfl) rfl #[.slice A1_0_0 l1_0_0.length c1_0_0, .agg #[.int .i64 a0_0, .int .i64 a0_1]] rfl amp_ ?_; (with_reducible refine (impl_Diagonal_88.calls k _ _ l1_0_0 a0_0 a0_1 false _ ?side1 ?side2 A3.out).mono ?_); (case side1 => repeat (first | exact (Kd.C_below HR1_0_0.out HB.out) | (with_reducible refine Kd.C_alloc ?_ _) | (with_reducible refine Kd.C_drewN ?_ _) | (with_reducible refine Kd.C_drew ?_))); (case side2 => exact HC1_0_0.out); rintro e w15 ⟨rfl, hb⟩; refine ⟨_, rfl, ?_⟩; have n0_ := Aside0.mk (blk_below (g := gc1_0) (o := .cells #[.slice A1_0_0 l1_0_0.length c1_0_0] 22 (0, 0)) (bk_ BK20.out) hb); have n1_ := Aside0.mk (blk_below (g := gb294) (o := .cells #[.int .i64 a0_0, .int .i64 a0_1] 36 (0, 0)) (bk_ BK294.out) hb); have n2_ := Aside0.mk (below_step (by repeat (first | (with_reducible first | exact HB.out | apply below_alloc | apply pw_below_drewN | apply below_drew1 | refine below_set ?_ GE20.out | refine below_set ?_ GE294.out) | exact HB.out)) hb); clear BK20; clear BK294; clear HB; have BK20 := n0_; have BK294 := n1_; have HB := n2_; clear n0_ n1_ n2_; (try clear hb); (try clear hb2); (try clear hk); (try clear hi); have hcz16_0 : w15.cell? ⟨gc1_0, 0, none⟩ = some (.slice A1_0_0 l1_0_0.length c1_0_0) := (blk_cell BK20.out 0).trans rfl; have hfz16_0 := blk_frozen BK20.out 0; have hcz17_0 : w15.cell? ⟨gb294, 0, none⟩ = some (.int .i64 a0_0) := (blk_cell BK294.out 0).trans rfl; have hcz17_1 : w15.cell? ⟨gb294, 1, none⟩ = some (.int .i64 a0_1) := (blk_cell BK294.out 1).trans rfl; have hfz17_0 := blk_frozen BK294.out 0; have hfz17_1 := blk_frozen BK294.out 1) | (go_at_call 111; (with_reducible refine (impl_crosses.calls k _ _ l1_0_0 a0_0 a0_1 t296 _ ?side1 ?side2 A10.out).mono ?_); (case side1 => repeat (first | exact (Kd.C_below HR1_0_0.out HB.out) | (with_reducible refine Kd.C_alloc ?_ _) | (with_reducible refine Kd.C_drewN ?_ _) | (with_reducible refine Kd.C_drew ?_))); (case side2 => exact HC1_0_0.out); rintro e w18 ⟨rfl, hb⟩; have n0_ := Aside0.mk (blk_below (g := gc1_0) (o := .cells #[.slice A1_0_0 l1_0_0.length c1_0_0] 22 (0, 0)) (bk_ BK20.out) hb); have n1_ := Aside0.mk (blk_below (g := gb294) (o := .cells #[.int .i64 a0_0, .int .i64 a0_1] 36 (0, 0)) (bk_ BK294.out) hb); have n2_ := Aside0.mk (below_step (by repeat (first | (with_reducible first | exact HB.out | apply below_alloc | apply pw_below_drewN | apply below_drew1 | refine below_set ?_ GE20.out | refine below_set ?_ GE294.out) | exact HB.out)) hb); clear BK20; clear BK294; clear HB; have BK20 := n0_; have BK294 := n1_; have HB := n2_; clear n0_ n1_ n2_; (try clear hb); (try clear hb2); (try clear hk); (try clear hi)))
  go_ret
  exact ⟨by first | rfl | (simp [errW_none, errW_some] <;> rfl) | (simp [*, errW_none, errW_some] <;> rfl), by repeat (first | (with_reducible first | exact HB.out | apply below_alloc | apply pw_below_drewN | apply below_drew1 | refine below_set ?_ GE20.out | refine below_set ?_ GE294.out) | exact HB.out)⟩

/-! ### impl_freeDiagonals: function 91 -/
def idxOf {α : Type} (p : α → Bool) : List α → Nat → Int
 | [], _ => -1
 | x :: l, i => if p x = true then (i : Int) else idxOf p l (i + 1)
theorem idxOf_nonneg {α : Type} (p : α → Bool) (l : List α) : ∀ i : Nat, 0 ≤ idxOf p l i ↔ l.any p = true := by
 induction l with
 | nil => intro i; simp [idxOf]
 | cons x l ih =>
  intro i
  rw [List.any_cons]
  unfold idxOf
  by_cases h : p x = true
  ·rw [if_pos h, h]
   simp
  ·rw [if_neg h, Bool.eq_false_iff.mpr h, Bool.false_or]
   exact ih _
theorem idxOf_any {α : Type} (p : α → Bool) (l : List α) (i : Nat) : decide (idxOf p l i ≥ 0) = l.any p := by
 rw [Bool.eq_iff_iff, decide_eq_true_iff]
 exact idxOf_nonneg p l i
theorem idxOf_step {α : Type} (p : α → Bool) (d : α) (l : List α) (i : Nat) (h : i < l.length) : idxOf p (l.drop i) i = if p (l.getD i d) = true then (i : Int) else idxOf p (l.drop (i + 1)) (i + 1) := by
 rw [List.drop_eq_getElem_cons h, List.getD_eq_getElem?_getD, List.getElem?_eq_getElem h]
 rfl

set_option maxHeartbeats 2000000 in
theorem IndexFuncM36 (p : S36 → Bool) (g : Nat) (lb : Array Value) (eg : ∀ args w, (callFunc g args).run Try.prog w = .ok (.enter g args) w) (A0 : Option Addr) (c0 : Nat) (l0 : List S36) (w : World) (hr0 : Kd.C k36 w A0 l0.length l0)
  (hp : ∀ (W : World) (x : S36), x ∈ l0 → Below w.heap.size w W → Calls Try.prog g (#[.agg #[.int .i64 x.f0, .int .i64 x.f1]] ++ lb) W fun e w' => e = .returned (.bool (p x)) ∧ Below W.heap.size W w') :
  Calls Try.prog 89 #[.slice A0 l0.length c0, .func (.func g) #[] lb] w fun e w' => e = .returned (.int .i64 (idxOf p l0 0)) ∧ Below w.heap.size w w' := by
 have hbig : l0.length ≤ 9223372036854775807 := hr0.2.1
 have HR0 := Aside0.mk hr0
 have HP := Aside0.mk hp
 clear hr0 hp
 go_enter Try.func89, Try.ntmps89
 go_wp2
 go_loopg [5, 8] l0.length (fun gg _ s8 wr => ∃ i : Nat, i ≤ l0.length ∧ l0.length - i ≤ gg ∧ s8 = .int .i64 i ∧ Aside0 (idxOf p l0 0 = idxOf p (l0.drop i) i) ∧ Aside0 (Below w.heap.size w wr))
 case atStart => exact ⟨0, Nat.zero_le _, by omega, rfl, ⟨by rw [List.drop_zero]⟩, ⟨Below.refl _ w⟩⟩
 case round =>
  obtain ⟨i, hi, hg, rfl, HX, HB⟩ := hrel
  by_cases hlt : i < l0.length
  ·have p0 : (0 : Int) ≤ (i : Int) := by omega
   have q0 : (i : Int) < (l0.length : Int) := by omega
   obtain ⟨ad, rfl, h0, h1⟩ := at_T36 (Kd.C_below HR0.out HB.out) (i : Int) p0 q0
   simp only [Int.toNat_natCast] at h0 h1
   have hstep := idxOf_step p z36 l0 i hlt
   have hmem : rd_T36 l0 (i : Int) ∈ l0 := by
    unfold rd_T36
    rw [Int.toNat_natCast, List.getD_eq_getElem?_getD, List.getElem?_eq_getElem hlt]
    exact List.getElem_mem _
   have hcall := HP.out wr (rd_T36 l0 (i : Int)) hmem HB.out
   clear hmem
   have erd : rd_T36 l0 (i : Int) = l0.getD i z36 := by unfold rd_T36; rw [Int.toNat_natCast]
   rw [← erd] at hstep
   clear erd
   generalize rd_T36 l0 (i : Int) = x at h0 h1 hstep hcall
   cases hq : p x with
   | true =>
    rw [hq] at hcall hstep
    have HC := Lib.hid hcall
    have HS := Lib.hid hstep
    clear hcall hstep hq
    go_wp2_with (go_at_fn g; refine HC.out.mono ?_; rintro e w' ⟨rfl, hb'⟩)
    go_ret
    exact ⟨by rw [HX.out, HS.out]; rfl, HB.out.trans (hb'.mono (below_size HB.out))⟩
   | false =>
    rw [hq] at hcall hstep
    have HC := Lib.hid hcall
    have HS := Lib.hid hstep
    clear hcall hstep hq
    go_wp2_with (go_at_fn g; refine HC.out.mono ?_; rintro e w' ⟨rfl, hb'⟩)
    go_roundg (l0.length - (i + 1))
    case measure => omega
    case rel => exact ⟨i + 1, by omega, by omega, by go_num, ⟨by rw [HX.out, HS.out]; rfl⟩, ⟨HB.out.trans (hb'.mono (below_size HB.out))⟩⟩
  ·have hltz : ¬ (i : Int) < (l0.length : Int) := by omega
   go_wp2
   go_ret
   exact ⟨by rw [HX.out, List.drop_of_length_le (by omega)]; rfl, HB.out⟩

theorem R_spare {α : Type} {d : Kd α} {e base n cap g m o : Nat} {ok : Nat → Prop} {W : World} {xs : List α} {cs : List Value} (h : d.R e W base ok (.slice (some ⟨g, 0, none⟩) n cap) xs) (hm : m ≤ n) (ho : m * d.sz ≤ o) (hfit : o + cs.length ≤ cap * d.sz) :
  d.R e (W.setCells g o cs) base ok (.slice (some ⟨g, 0, none⟩) m cap) (xs.take m) := by
 have hn : n = xs.length := (Kd.R_reads' h).1
 have h' := Kd.R_take h (m := m) (by omega)
 obtain ⟨hok, inner, hown, hr⟩ := h'
 have hin : inner.length = m * d.sz := by rw [hr.1, List.length_take, Nat.min_eq_left (by omega)]
 obtain ⟨ho1, ho2⟩ := hown
 rcases ho2 with ⟨hv, _⟩ | ⟨g', cap', cur, hv, hb, hh, hnc', hcm, hcs, ht⟩
 ·cases hv
 injection hv with ha hml hc
 injection ha with ha
 injection ha with hg
 subst hg; subst hc
 obtain ⟨cur', h3, h4, h5⟩ := setCells_row cs o W cur hh (by omega)
 have hfar : ∀ k, k ≠ g → (W.setCells g o cs).heap[k]? = W.heap[k]? := fun k hk => setCells_far cs _ k hk
 refine ⟨hok, inner, ⟨ho1, .inr ⟨g, cap, cur', by rw [← hml], hb, h3, hnc', hcm, by rw [h4, hcs], ?_⟩⟩, hr.1, fun q p hq => ?_⟩
 ·rw [← ht, h5]
  apply List.ext_getElem?
  intro q
  rw [List.getElem?_take, List.getElem?_take, seg_get cur.toList cs o (by have : cur.toList.length = cur.size := Array.length_toList; omega) q]
  rw [← hml]
  by_cases hq : q < m * d.sz
  ·rw [if_pos hq, if_pos hq, if_pos (by omega)]
  ·rw [if_neg hq, if_neg hq]
 ·exact d.M_move (fun k hk => hfar k (fun he => hk.2 (by rw [he]; simp [Value.ownBlock]))) (hr.2 q p hq)
theorem run_clear_pair {P : Program} (w : World) (t e ty : TypeId) (z a0 a1 : Value) (ht : P.underlying t = some (.slice e)) (hv : ∀ w, (zeroValue e).run P w = .ok z w) (hz : z.cells = #[a0, a1]) (h0 : a0.oneCell' = true) (h1 : a1.oneCell' = true) (b o n c : Nat) (hn : 0 < n)
  (hc : ∀ j, j < 2 * n → (w.cell? ⟨b, o + j, none⟩).isSome = true) (hf : ∀ j, j < 2 * n → w.frozen? ⟨b, o + j, none⟩ = false) :
  ∃ cs : List Value, cs.length = 2 * n ∧ (Builtin.clear_ #[t] ty #[.slice (some ⟨b, o, none⟩) n c]).run P w = .ok (.tuple #[]) (w.setCells b o cs) := by
 have hl : (Builtin.zeroCells z.cells n).toList.length = 2 * n := by
  rw [hz]
  simp [Builtin.zeroCells]
  omega
 have hone : ∀ v ∈ (Builtin.zeroCells z.cells n).toList, v.oneCell' = true := by
  rw [hz]
  intro v hv'
  simp only [Builtin.zeroCells, Array.toList_map, List.mem_map] at hv'
  obtain ⟨i, _, rfl⟩ := hv'
  have : i % 2 = 0 ∨ i % 2 = 1 := by omega
  rcases this with h | h
  ·simp [h, h0]
  ·simp [h, h1]
 refine ⟨(Builtin.zeroCells z.cells n).toList, hl, ?_⟩
 have hst := run_storeCells_cells (P := P) b o (Builtin.zeroCells z.cells n).toList 0 w (by rw [hl]; simpa using hc) (by rw [hl]; simpa using hf) hone
 simp only [Nat.add_zero] at hst
 obtain ⟨m, rfl⟩ : ∃ m, n = m + 1 := ⟨n - 1, by omega⟩
 simp [Builtin.clear_, run_underlying ht, hv, hst]
theorem take_succ_filter {α : Type} (q : α → Bool) (l : List α) (j : Nat) (h : j < l.length) : (l.take (j + 1)).filter q = (l.take j).filter q ++ if q l[j] = true then [l[j]] else [] := by
 rw [List.take_succ_eq_append_getElem h, List.filter_append, List.filter_cons]
 rfl
theorem idxOf_found {α : Type} (p : α → Bool) : ∀ (l : List α) (i : Nat), (idxOf p l i = -1 ∧ ∀ x ∈ l, p x = false) ∨ (∃ (A : List α) (x : α) (B : List α), l = A ++ x :: B ∧ p x = true ∧ (∀ y ∈ A, p y = false) ∧ idxOf p l i = ((i + A.length : Nat) : Int))
 | [], _ => .inl ⟨rfl, fun x hx => by cases hx⟩
 | y :: l, i => by
  unfold idxOf
  by_cases h : p y = true
  ·rw [if_pos h]
   refine .inr ⟨[], y, l, rfl, h, ?_, by simp⟩
   intro z hz
   cases hz
  ·rw [if_neg h]
   rcases idxOf_found p l (i + 1) with ⟨h1, h2⟩ | ⟨A, x, B, h1, h2, h3, h4⟩
   ·refine .inl ⟨h1, fun x hx => ?_⟩
    rcases List.mem_cons.1 hx with e | e
    ·rw [e]
     simpa using h
    ·exact h2 x e
   ·refine .inr ⟨y :: A, x, B, by rw [h1]; rfl, h2, fun z hz => ?_, ?_⟩
    ·rcases List.mem_cons.1 hz with e | e
     ·rw [e]
      simpa using h
     ·exact h3 z e
    ·rw [h4, List.length_cons]
     congr 1
     omega
theorem below_setCells {B : Nat} {a : World} {g : Nat} (hg : B ≤ g) : ∀ (vs : List Value) (o : Nat) (w : World), Below B a w → Below B a (w.setCells g o vs)
 | [], _, _, h => h
 | v :: r, o, w, h => by
  rw [World.setCells]
  exact below_setCells hg r (o + 1) _ (h.setCell (show B ≤ (⟨g, o, none⟩ : Addr).block from hg) v)
theorem zero36 : ∀ w, (zeroValue 36).run Try.prog w = .ok (.agg #[.int .i64 0, .int .i64 0]) w := fun w => by go_simp
set_option maxHeartbeats 4000000 in
set_option maxRecDepth 100000 in
theorem DeleteFunc36 (p : S36 → Bool) (g : Nat) (lb : Array Value) (eg : ∀ args w, (callFunc g args).run Try.prog w = .ok (.enter g args) w) (u : Value) (l0 : List S36) (base : Nat) (w0 w : World) (ok : Nat → Prop) (hR : Kd.R k36 36 w base ok u l0) (hB : Below base w0 w) (hbs : base ≤ w.heap.size)
  (hp : ∀ (W : World) (x : S36), x ∈ l0 → Below base w0 W → Calls Try.prog g (#[.agg #[.int .i64 x.f0, .int .i64 x.f1]] ++ lb) W fun e w' => e = .returned (.bool (p x)) ∧ Below W.heap.size W w') :
  Calls Try.prog 116 #[u, .func (.func g) #[] lb] w fun e w' => ∃ v0_ : Value, e = .returned v0_ ∧ Kd.R k36 36 w' base ok v0_ (l0.filter fun x => !p x) ∧ Below base w0 w' := by
 obtain ⟨A0, c0, rfl, hc0, hr0⟩ := Kd.R_reads hR
 have hi := IndexFuncM36 p g lb eg A0 c0 l0 w hr0 (fun W x hx hW => hp W x hx (hB.trans (hW.mono hbs)))
 rcases idxOf_found p l0 0 with ⟨h1, h2⟩ | ⟨A, x, B, h1, h2, h3, h4⟩
 ·rw [h1] at hi
  have hf : l0.filter (fun x => !p x) = l0 := by
   rw [List.filter_eq_self]
   intro y hy
   rw [h2 y hy]
   rfl
  rw [hf]
  have HI := Lib.hid hi
  have HR := Aside0.mk hR
  have HB := Aside0.mk hB
  clear hi hR hB hp hr0 hf h1 h2
  go_enter Try.func116, Try.ntmps116
  go_wp2_with (go_at_call 89; refine HI.out.mono ?_; rintro e w1 ⟨rfl, hb⟩)
  go_ret
  exact ⟨_, rfl, Kd.R_below HR.out hb, HB.out.trans (hb.mono hbs)⟩
 ·rw [h4, Nat.zero_add] at hi
  have hlen : l0.length = A.length + (B.length + 1) := by rw [h1]; simp
  obtain ⟨bg, cap, e1, hbg, hlt, _⟩ := Kd.R_form hR (by omega)
  injection e1 with ea _ ec
  subst ea; subst ec
  have hne : ((A.length : Int) == -1) = false := beq_eq_false_iff_ne.2 (by omega)
  have hA : (l0.take (A.length + 1)).filter (fun x => !p x) = A := by
   have : l0.take (A.length + 1) = A ++ [x] := by
    rw [h1, List.take_append, List.take_of_length_le (by omega), Nat.add_sub_cancel_left]
    rfl
   rw [this, List.filter_append, List.filter_cons, h2]
   have h5 : A.filter (fun x => !p x) = A := by
    rw [List.filter_eq_self]
    intro y hy
    rw [h3 y hy]
    rfl
   rw [h5]
   simp
  have HI := Lib.hid hi
  have HR := Aside0.mk hR
  have HB := Aside0.mk hB
  have HP := Aside0.mk hp
  have HA := Aside0.mk hA
  have H1 := Aside0.mk h1
  have HL := Aside0.mk hlen
  have hAl : A.length < l0.length := by omega
  have hbig : l0.length ≤ 9223372036854775807 := hr0.2.1
  clear hi hR hB hp hr0 hA h4 h1 hlen
  go_enter Try.func116, Try.ntmps116
  go_wp2_with (go_at_call 89; refine HI.out.mono ?_; rintro e w1 ⟨rfl, hb⟩; have hs1 := Aside0.mk (Below.size hb); have HR1 := Aside0.mk (Kd.R_below HR.out hb); have HB1 := Aside0.mk (Below.trans HB.out (hb.mono hbs)); clear hb)
  go_loopg [5, 6, 7] l0.length (fun gg s5 s6 _ wr => ∃ (i j : Nat) (xs : List S36), s5 = .int .i64 i ∧ s6 = .int .i64 j ∧ i < j ∧ j ≤ l0.length ∧ l0.length - j ≤ gg ∧ xs.length = l0.length ∧ Aside0 (xs.take i = (l0.take j).filter fun x => !p x) ∧ Aside0 (xs.drop j = l0.drop j) ∧ Aside0 (Kd.R k36 36 wr base ok (.slice (some ⟨bg, 0, none⟩) l0.length c0) xs) ∧ Aside0 (Below base w0 wr) ∧ Aside0 (w.heap.size ≤ wr.heap.size))
  case atStart =>
   refine ⟨A.length, A.length + 1, l0, rfl, ?_, Nat.lt_succ_self _, hAl, ?_, rfl, ⟨?_⟩, ⟨rfl⟩, HR1, HB1, hs1⟩
   ·rfl
   ·omega
   ·rw [HA.out, H1.out]
    simp
  case round =>
   obtain ⟨i, j, xs, rfl, rfl, hij, hjl, hgg, hxl, HT, HD, HRx, HBx, HS⟩ := hrel
   by_cases hlt : j < l0.length
   ·have hltz : (j : Int) < (l0.length : Int) := by omega
    have p0 : (0 : Int) ≤ (j : Int) := by omega
    have p1 : (0 : Int) ≤ (i : Int) := by omega
    have q1 : (i : Int) < (l0.length : Int) := by omega
    obtain ⟨cj, hcl, hM, hcc, hfr⟩ := Kd.R_elem HRx.out z36 (j : Int) p0 hltz
    have erd : xs.getD (j : Int).toNat z36 = rd_T36 l0 (j : Int) := by
     have hd := HD.out
     unfold rd_T36
     rw [Int.toNat_natCast]
     have h2 : (xs.drop j)[0]? = (l0.drop j)[0]? := by rw [hd]
     rw [List.getElem?_drop, List.getElem?_drop, Nat.add_zero] at h2
     rw [List.getD_eq_getElem?_getD, List.getD_eq_getElem?_getD, h2]
    rw [erd] at hM
    have hce := k36_openM hM
    have h0 : wr.cell? ⟨bg, j * 2, none⟩ = some (.int .i64 (rd_T36 l0 (j : Int)).f0) := hcc 0 _ (by rw [hce]; rfl)
    have h1 : wr.cell? ⟨bg, j * 2 + 1, none⟩ = some (.int .i64 (rd_T36 l0 (j : Int)).f1) := hcc 1 _ (by rw [hce]; rfl)
    have hmem : rd_T36 l0 (j : Int) ∈ l0 := by
     unfold rd_T36
     rw [Int.toNat_natCast, List.getD_eq_getElem?_getD, List.getElem?_eq_getElem hlt]
     exact List.getElem_mem _
    have hcall := fun W h1 => HP.out W (rd_T36 l0 (j : Int)) hmem h1
    clear hmem
    generalize hx : rd_T36 l0 (j : Int) = y at h0 h1 hcall
    have HX := Aside0.mk hx
    clear hx erd hcl hM hcc hfr hce
    cases hq : p y with
    | false =>
     rw [hq] at hcall
     have HC := Aside0.mk hcall
     clear hcall
     go_wp2_with (go_at_fn g; refine (HC.out _ (HBx.out.trans ((below_alloc (Below.refl wr.heap.size wr) _).mono (Nat.le_trans hbs HS.out)))).mono ?_; rintro e w' ⟨rfl, hb'⟩; have HRw := Aside0.mk (Kd.R_below (Kd.R_alloc HRx.out _) hb'); obtain ⟨ci, hcl2, hM2, hcc2, hfr2⟩ := Kd.R_elem HRw.out z36 (i : Int) p1 q1; have hci := k36_openM hM2; have g0 : w'.cell? ⟨bg, i * 2, none⟩ = some (.int .i64 (xs.getD (i : Int).toNat z36).f0) := hcc2 0 _ (by rw [hci]; rfl); have g1 : w'.cell? ⟨bg, i * 2 + 1, none⟩ = some (.int .i64 (xs.getD (i : Int).toNat z36).f1) := hcc2 1 _ (by rw [hci]; rfl); have f0 : w'.frozen? ⟨bg, i * 2, none⟩ = false := hfr2 0; have f1 : w'.frozen? ⟨bg, i * 2 + 1, none⟩ = false := hfr2 1; have hbk : (wr.alloc (.cells #[.int .i64 y.f0, .int .i64 y.f1] 36)).heap[wr.heap.size]? = some (.cells #[.int .i64 y.f0, .int .i64 y.f1] 36) := Array.getElem?_push_size; have hbk2 := blk_below hbk hb'; have b0 : w'.cell? ⟨wr.heap.size, 0, none⟩ = some (.int .i64 y.f0) := (blk_cell hbk2 0).trans rfl; have b1 : w'.cell? ⟨wr.heap.size, 1, none⟩ = some (.int .i64 y.f1) := (blk_cell hbk2 1).trans rfl; have HC2 := Aside0.mk hcc2; have HL2 := Aside0.mk hcl2; have HB2 := Aside0.mk hb'; clear hb' hbk hbk2 hcc2 hcl2 hM2 hci hfr2)
     go_roundg (l0.length - (j + 1))
     case measure => omega
     case rel =>
      have hix : i < xs.length := by omega
      have hy : l0[j] = y := by
       have h5 := HX.out
       unfold rd_T36 at h5
       rwa [Int.toNat_natCast, List.getD_eq_getElem?_getD, List.getElem?_eq_getElem hlt] at h5
      have hseg := Kd.R_seg HRw.out (i : Int) p1 q1 (j := 0) (seg := [.int .i64 y.f0, .int .i64 y.f1]) (okp := fun _ => False) (x' := y) HL2.out HC2.out (Nat.le_refl 2) (by
       have hl : ci.length = 2 := HL2.out
       rw [List.take_zero, List.nil_append, List.drop_of_length_le (by rw [hl]; exact Nat.le_refl 2), List.append_nil]
       exact k36_mkM _ _ _ y) (fun _ h => h.elim)
      refine ⟨i + 1, j + 1, xs.set i y, rfl, rfl, by omega, by omega, Nat.le_refl _, by rw [List.length_set]; exact hxl, ⟨?_⟩, ⟨?_⟩, ⟨hseg.1⟩, ⟨?_⟩, ⟨?_⟩⟩
      ·rw [List.take_succ_eq_append_getElem (by rw [List.length_set]; exact hix), List.getElem_set_self, List.take_set_of_le (Nat.le_refl i), HT.out, take_succ_filter _ _ _ hlt, hy, hq]
       rfl
      ·rw [List.drop_set_of_lt (by omega)]
       have h5 := congrArg (List.drop 1) HD.out
       rwa [List.drop_drop, List.drop_drop] at h5
      ·exact ((HBx.out.trans (((below_alloc (Below.refl wr.heap.size wr) _).trans (HB2.out.mono (below_alloc (Below.refl wr.heap.size wr) _).size)).mono (Nat.le_trans hbs HS.out))).setCell (show base ≤ (⟨bg, i * 2, none⟩ : Addr).block from hbg) _).setCell (show base ≤ (⟨bg, i * 2 + 1, none⟩ : Addr).block from hbg) _
      ·have hsz : ∀ (W : World) (a : Addr) (v : Value), (W.setCell a v).heap.size = W.heap.size := fun W a v => by simp [World.setCell]
       rw [hsz, hsz]
       exact Nat.le_trans HS.out (Nat.le_trans (below_alloc (Below.refl wr.heap.size wr) _).size HB2.out.size)
    | true =>
     rw [hq] at hcall
     have HC := Aside0.mk hcall
     clear hcall
     go_wp2_with (go_at_fn g; refine (HC.out _ (HBx.out.trans ((below_alloc (Below.refl wr.heap.size wr) _).mono (Nat.le_trans hbs HS.out)))).mono ?_; rintro e w' ⟨rfl, hb'⟩; have HRw := Aside0.mk (Kd.R_below (Kd.R_alloc HRx.out _) hb'); have HB2 := Aside0.mk hb'; clear hb')
     go_roundg (l0.length - (j + 1))
     case measure => omega
     case rel =>
      have hy : l0[j] = y := by
       have h5 := HX.out
       unfold rd_T36 at h5
       rwa [Int.toNat_natCast, List.getD_eq_getElem?_getD, List.getElem?_eq_getElem hlt] at h5
      refine ⟨i, j + 1, xs, rfl, rfl, by omega, by omega, Nat.le_refl _, hxl, ⟨?_⟩, ⟨?_⟩, HRw, ⟨?_⟩, ⟨?_⟩⟩
      ·rw [HT.out, take_succ_filter _ _ _ hlt, hy, hq]
       simp
      ·have h5 := congrArg (List.drop 1) HD.out
       rwa [List.drop_drop, List.drop_drop] at h5
      ·exact HBx.out.trans (((below_alloc (Below.refl wr.heap.size wr) _).trans (HB2.out.mono (below_alloc (Below.refl wr.heap.size wr) _).size)).mono (Nat.le_trans hbs HS.out))
      ·exact Nat.le_trans HS.out (Nat.le_trans (below_alloc (Below.refl wr.heap.size wr) _).size HB2.out.size)
   ·obtain rfl : j = l0.length := by omega
    have hltz : ¬ (l0.length : Int) < (l0.length : Int) := by omega
    have hform := HRx.out
    obtain ⟨_, inner, hown, _⟩ := hform
    obtain ⟨_, ho2⟩ := hown
    rcases ho2 with ⟨hv, _⟩ | ⟨g', cap', cur, hv, _, hh, hnc', hcm, hcs, _⟩
    ·cases hv
    injection hv with ha hnn hcc
    injection ha with ha
    injection ha with hgg2
    subst hgg2; subst hcc
    have hcs2 : cur.size = c0 * 2 := hcs
    have hnc2 : l0.length ≤ c0 := by rw [hxl] at hnc'; exact hnc'
    obtain ⟨cs, hcl, hrun⟩ : ∃ cs : List Value, cs.length = 2 * (l0.length - i) ∧ ∀ ty, (Builtin.clear_ #[22] ty #[.slice (some ⟨bg, i * 2, none⟩) (l0.length - i) (c0 - i)]).run Try.prog wr = .ok (.tuple #[]) (wr.setCells bg (i * 2) cs) := by
     have hcell : ∀ q, q < 2 * (l0.length - i) → (wr.cell? ⟨bg, i * 2 + q, none⟩).isSome = true := fun q hq => by
      rw [cell_of_row wr bg _ cur 36 (0, 0) hh, Array.getElem?_eq_getElem (by omega)]
      rfl
     have hfro : ∀ q, q < 2 * (l0.length - i) → wr.frozen? ⟨bg, i * 2 + q, none⟩ = false := fun q _ => blk_frozen hh _
     obtain ⟨cs, h1, h2⟩ := run_clear_pair (P := Try.prog) wr 22 36 0 (.agg #[.int .i64 0, .int .i64 0]) (.int .i64 0) (.int .i64 0) Try.underlying22 zero36 rfl rfl rfl bg (i * 2) (l0.length - i) (c0 - i) (by omega) hcell hfro
     exact ⟨cs, h1, fun ty => h2⟩
    have HCL := Aside0.mk hcl
    have HXL := Aside0.mk hxl
    have HHH := Aside0.mk hh
    have HCS := Aside0.mk hcs2
    clear hcl hxl hh hcs hcs2 hnc' hnn
    go_wp2
    go_ret
    refine ⟨.slice (some ⟨bg, 0, none⟩) i c0, rfl, ?_, below_setCells hbg cs _ _ HBx.out⟩
    have h5 := R_spare (m := i) (o := i * 2) (cs := cs) HRx.out (by omega) (Nat.le_refl _) (by
     rw [HCL.out]
     show i * 2 + 2 * (l0.length - i) ≤ c0 * 2
     omega)
    rw [HT.out, List.take_of_length_le (Nat.le_refl _)] at h5
    exact h5

def impl_freeDiagonals.f (k : Nat) (a0 : Int) (l1 : List S36) : Option (List S36) := (impl_allDiagonals.f k a0).bind fun t => if (t.all fun x => (impl_freeDiagonals_1_s5.f k x.f0 x.f1 l1).isSome) = true then some (t.filter fun x => !((impl_freeDiagonals_1_s5.f k x.f0 x.f1 l1).getD false)) else none
theorem impl_freeDiagonals.mono : ∀ a0 a1 k, LeO (impl_freeDiagonals.f k a0 a1) (impl_freeDiagonals.f (k + 1) a0 a1) := by
 intro a0 a1 k
 unfold impl_freeDiagonals.f
 refine LeO.bind (impl_allDiagonals.mono _ _) (fun t => ?_)
 intro r hr
 by_cases h : (t.all fun x => (impl_freeDiagonals_1_s5.f k x.f0 x.f1 a1).isSome) = true
 ·rw [if_pos h] at hr
  rw [List.all_eq_true] at h
  have hs : ∀ x ∈ t, impl_freeDiagonals_1_s5.f (k + 1) x.f0 x.f1 a1 = impl_freeDiagonals_1_s5.f k x.f0 x.f1 a1 := by
   intro x hx
   obtain ⟨b, hb⟩ := Option.isSome_iff_exists.1 (h x hx)
   rw [hb]
   exact impl_freeDiagonals_1_s5.mono _ _ _ _ _ hb
  have h2 : (t.all fun x => (impl_freeDiagonals_1_s5.f (k + 1) x.f0 x.f1 a1).isSome) = true := by
   rw [List.all_eq_true]
   intro x hx
   rw [hs x hx]
   exact h x hx
  rw [if_pos h2, ← hr]
  congr 1
  refine List.filter_congr ?_
  intro x hx
  rw [hs x hx]
 ·rw [if_neg h] at hr
  cases hr
set_option maxHeartbeats 4000000 in
set_option maxRecDepth 100000 in
theorem impl_freeDiagonals.calls (k : Nat) (a0 : Int) (A1 : Option Addr) (c1 : Nat) (l1 : List S36) (r : List S36) (w : World) (hr1 : Kd.C k36 w A1 l1.length l1) (hc1 : l1.length ≤ c1) (h : impl_freeDiagonals.f k a0 l1 = some r) :
  Calls Try.prog 91 #[.int .i64 a0, .slice A1 l1.length c1] w fun e w' => ∃ v0_ : Value, e = .returned (v0_) ∧ Kd.R k36 36 w' w.heap.size (fun _ => True) v0_ r ∧ Below w.heap.size w w' := by
 have H : ((impl_allDiagonals.f k a0).bind fun t => if (t.all fun x => (impl_freeDiagonals_1_s5.f k x.f0 x.f1 l1).isSome) = true then some (t.filter fun x => !((impl_freeDiagonals_1_s5.f k x.f0 x.f1 l1).getD false)) else none) = some r := h
 clear h
 obtain ⟨t, ht, H⟩ := Option.bind_eq_some_iff.mp H
 by_cases hall : (t.all fun x => (impl_freeDiagonals_1_s5.f k x.f0 x.f1 l1).isSome) = true
 ·rw [if_pos hall] at H
  obtain rfl := Option.some.inj H
  rw [List.all_eq_true] at hall
  clear H
  have hlit : ∀ (gb : Nat) (W : World) (x : S36), x ∈ t → W.heap[gb]? = some (.cells #[.slice A1 l1.length c1] 22 (0, 0)) → Kd.C k36 W A1 l1.length l1 → Calls Try.prog 117 (#[.agg #[.int .i64 x.f0, .int .i64 x.f1]] ++ #[.pointer (some ⟨gb, 0, none⟩)]) W fun e w' => e = .returned (.bool ((impl_freeDiagonals_1_s5.f k x.f0 x.f1 l1).getD false)) ∧ Below W.heap.size W w' := by
   intro gb W x hx hb hC
   obtain ⟨b, hb2⟩ := Option.isSome_iff_exists.1 (hall x hx)
   rw [hb2]
   exact impl_freeDiagonals_1_s5.calls k x.f0 x.f1 gb A1 c1 l1 b W hb hC hc1 hb2
  have hkey : ∀ (gb : Nat) (v0 : Value) (w4 w5 : World), Below w.heap.size w w4 → w4.heap[gb]? = some (.cells #[.slice A1 l1.length c1] 22 (0, 0)) → Kd.R k36 36 w5 w4.heap.size (fun _ => True) v0 t → Below w4.heap.size w4 w5 →
    Calls Try.prog 116 #[v0, .func (.func 117) #[] #[.pointer (some ⟨gb, 0, none⟩)]] w5 fun e w' => ∃ v0_ : Value, e = .returned v0_ ∧ Kd.R k36 36 w' w.heap.size (fun _ => True) v0_ (t.filter fun x => !((impl_freeDiagonals_1_s5.f k x.f0 x.f1 l1).getD false)) ∧ Below w.heap.size w w' := by
   intro gb v0 w4 w5 h1 h2 h3 h4
   refine (DeleteFunc36 (fun x => (impl_freeDiagonals_1_s5.f k x.f0 x.f1 l1).getD false) 117 #[.pointer (some ⟨gb, 0, none⟩)] (enters_of Try.func117 (by kernel_rfl) rfl) v0 t w4.heap.size w4 w5 (fun _ => True) h3 h4 (below_size h4) ?_).mono ?_
   ·intro W x hx hW
    exact hlit gb W x hx ((hW.block gb (blk_lt h2)).trans h2) (Kd.C_below hr1 (h1.trans (hW.mono (below_size h1))))
   ·rintro e w6 ⟨v1, rfl, ho1, hb1⟩
    exact ⟨_, rfl, Kd.R_lower ho1 (below_size h1), h1.trans (hb1.mono (below_size h1))⟩
  have HK := Aside0.mk hkey
  have HT := Aside0.mk ht
  clear hlit ht hr1 hall hkey
  go_enter Try.func91, Try.ntmps91
  go_wp2_with (first
   | ((with_reducible refine gate_dst (N := 3) rfl ?_); refine box_event ?hg (N := 3) ?hd (cs := #[.slice A1 l1.length c1]) (t := 22) ?hr ?_; (case hd => rfl); (case hg => rfl); (case hr => first | (go_simp; done) | (go_simp; rfl)); intro gb hg w4 hbox hb; have HB1 := Aside0.mk hb; have HX1 := Aside0.mk hbox; have HG1 := Aside0.mk hg; clear hb hbox hg)
   | (go_at_call 95; refine (impl_allDiagonals.calls k a0 t _ HT.out).mono ?_; rintro e w5 ⟨v0, rfl, ho, hb⟩; have HO := Aside0.mk ho; have HB2 := Aside0.mk hb; clear ho hb)
   | (go_at_call 116; refine (HK.out gb v0 w4 w5 HB1.out HX1.out HO.out HB2.out).mono ?_; rintro e w6 ⟨v1, rfl, ho1, hb1⟩; have HO1 := Aside0.mk ho1; have HB3 := Aside0.mk hb1; clear ho1 hb1))
  go_ret
  exact ⟨_, rfl, HO1.out, HB3.out⟩
 ·rw [if_neg hall] at H
  cases H

/-! ### impl_FirstFiner: function 51 -/
def impl_FirstFiner.l0 : Nat → Int → List (S36) → Option ((List (S36)) × Bool)
 | 0, _, _ => none
 | k + 1, x0, x6 => if (x6.length : Int) < (wrap64 (x0 - 3)) then ((impl_freeDiagonals.f k x0 x6).bind fun t301 => (if 0 < (t301.length : Int) then ((impl_added.f k x6 ((rd_T36 t301 0).f0) ((rd_T36 t301 0).f1)).bind fun t305 => (impl_FirstFiner.l0 k x0 t305)) else (none))) else (some (x6, true))
def impl_FirstFiner.f (k : Nat) (a0 : Int) (l1 : List (S36)) : Option ((List (S36)) × Bool) := (impl_IsCut.f k a0 l1).bind fun t297 => (if t297 = true then ((impl_Diagonal_87.f l1).bind fun t298 => (impl_FirstFiner.l0 k a0 t298)) else (some (([] : List (S36)), false)))
theorem impl_FirstFiner.mono_l : ∀ k, (∀ y0 y1, LeO (impl_FirstFiner.l0 k y0 y1) (impl_FirstFiner.l0 (k + 1) y0 y1))
 | 0 => fun _ _ r h => by simp [impl_FirstFiner.l0] at h
 | k + 1 => by
  have ih0 := impl_FirstFiner.mono_l k
  ·intro y0 y1
   unfold impl_FirstFiner.l0
   repeat' first
   | (with_reducible exact ih0 _ _)
   | (with_reducible exact impl_IsCut.mono _ _ _)
   | (with_reducible exact impl_added.mono _ _ _ _)
   | (with_reducible exact impl_freeDiagonals.mono _ _ _)
   | (with_reducible exact LeO.refl _)
   | (with_reducible exact LeO.none _)
   | (with_reducible refine LeO.ite ?_ ?_)
   | (with_reducible refine LeO.bind ?_ (fun _ => ?_))
   | exact ih0 _ _
   | exact impl_IsCut.mono _ _ _
   | exact impl_added.mono _ _ _ _
   | exact impl_freeDiagonals.mono _ _ _
   | exact LeO.none _
   | refine LeO.ite ?_ ?_
   | refine LeO.bind ?_ (fun _ => ?_)
theorem impl_FirstFiner.mono : ∀ a0 a1 k, LeO (impl_FirstFiner.f k a0 a1) (impl_FirstFiner.f (k + 1) a0 a1) := by
 intro a0 a1 k
 have ih0 := impl_FirstFiner.mono_l k
 unfold impl_FirstFiner.f
 repeat' first
   | (with_reducible exact ih0 _ _)
   | (with_reducible exact impl_IsCut.mono _ _ _)
   | (with_reducible exact impl_added.mono _ _ _ _)
   | (with_reducible exact impl_freeDiagonals.mono _ _ _)
   | (with_reducible exact LeO.refl _)
   | (with_reducible exact LeO.none _)
   | (with_reducible refine LeO.ite ?_ ?_)
   | (with_reducible refine LeO.bind ?_ (fun _ => ?_))
   | exact ih0 _ _
   | exact impl_IsCut.mono _ _ _
   | exact impl_added.mono _ _ _ _
   | exact impl_freeDiagonals.mono _ _ _
   | exact LeO.none _
   | refine LeO.ite ?_ ?_
   | refine LeO.bind ?_ (fun _ => ?_)
set_option maxHeartbeats 8000000 in
set_option maxRecDepth 100000 in
theorem impl_FirstFiner.calls (k : Nat) (a0 : Int) (A1 : Option Addr) (c1 : Nat) (l1 : List (S36)) (r1 : List (S36)) (r2 : Bool) (w : World) (hr1 : Kd.C k36 w A1 l1.length l1) (hc1 : l1.length ≤ c1) (h : impl_FirstFiner.f k a0 l1 = some (r1, r2)) :
  Calls Try.prog 51 #[.int .i64 a0, .slice A1 l1.length c1] w fun e w' => ∃ v0_ : Value, e = .returned (.tuple #[v0_, .bool r2]) ∧ Kd.R k36 36 w' w.heap.size (fun _ => True) v0_ r1 ∧ Below w.heap.size w w' := by
 have hu36 := Try.underlying36
 have HR1 := Aside0.mk hr1
 have HC1 := Aside0.mk hc1
 clear hr1 hc1
 have HB := Aside0.mk (Below.refl w.heap.size w)
 have H : ((impl_IsCut.f k a0 l1).bind fun t297 => (if t297 = true then ((impl_Diagonal_87.f l1).bind fun t298 => (impl_FirstFiner.l0 k a0 t298)) else (some (([] : List (S36)), false)))) = some (r1, r2) := h
 clear h
 replace H := Option.bind_eq_some_iff.mp H
 obtain ⟨t297, A30, H⟩ := H
 replace H : (if t297 = true then ((impl_Diagonal_87.f l1).bind fun t298 => (impl_FirstFiner.l0 k a0 t298)) else (some (([] : List (S36)), false))) = some (r1, r2) := H
 have A3 := Aside0.mk A30
 clear A30
 by_cases c4 : t297 = true
 ·subst c4
  have H1 : ((impl_Diagonal_87.f l1).bind fun t298 => (impl_FirstFiner.l0 k a0 t298)) = some (r1, r2) := by rw [if_pos rfl] at H; exact H
  clear H
  have H := H1
  clear H1
  replace H := Option.bind_eq_some_iff.mp H
  obtain ⟨t298, A50, H⟩ := H
  replace H : (impl_FirstFiner.l0 k a0 t298) = some (r1, r2) := H
  have A5 := Aside0.mk A50
  clear A50
  have H' := Aside0.mk H
  clear H
  go_enter Try.func51, Try.ntmps51
  go_wp2_with (first | ((with_reducible refine gate_callee (f := 74) rfl ?_); refine goesL_ (some 9) rfl rfl Try.func74 (by kernel_rfl) rfl #[.int .i64 a0, .slice A1 l1.length c1] rfl amp_ ?_; (with_reducible refine (impl_IsCut.calls k a0 _ _ l1 true _ ?side1 ?side2 A3.out).mono ?_); (case side1 => repeat (first | exact HR1.out | (with_reducible refine Kd.C_alloc ?_ _) | (with_reducible refine Kd.C_drewN ?_ _) | (with_reducible refine Kd.C_drew ?_))); (case side2 => exact HC1.out); rintro e w6 ⟨rfl, hb⟩; refine ⟨_, rfl, ?_⟩; have n0_ := Aside0.mk (below_step blw_ hb); clear HB; have HB := n0_; clear n0_; (try clear hb); (try clear hb2); (try clear hk); (try clear hi)) | ((with_reducible refine gate_callee (f := 87) rfl ?_); refine goesL_ (some 12) rfl rfl Try.func87 (by kernel_rfl) rfl #[.slice A1 l1.length c1] rfl amp_ ?_; (with_reducible refine (impl_Diagonal_87.calls _ _ l1 t298 _ ?side1 ?side2 A5.out).mono ?_); (case side1 => repeat (first | exact (Kd.C_below HR1.out HB.out) | (with_reducible refine Kd.C_alloc ?_ _) | (with_reducible refine Kd.C_drewN ?_ _) | (with_reducible refine Kd.C_drew ?_))); (case side2 => exact HC1.out); rintro e w7 ⟨v299, rfl, ho0, hb⟩; refine ⟨_, rfl, ?_⟩; have n0_ := Aside0.mk (Kd.R_lower ho0 (below_size blw_)); have n1_ := Aside0.mk (below_step blw_ hb); clear HB; have HO300 := n0_; have HB := n1_; clear n0_ n1_; (try clear hb); (try clear hb2); (try clear hk); (try clear hi); (try clear ho0)))
  go_loopg [6] k (fun kq v6 w' => ∃ (x6_1 : List (S36)), Aside0 (impl_FirstFiner.l0 kq a0 x6_1 = some (r1, r2)) ∧ Aside0 (kq ≤ k) ∧ Aside0 (Kd.R k36 36 w' w.heap.size (fun _ => True) v6 x6_1) ∧ Aside0 (Below w.heap.size w w'))
  case atStart => exact ⟨(t298), H', ⟨Nat.le_refl _⟩, ⟨ra_ HO300.out⟩, ⟨by repeat (first | (with_reducible first | exact HB.out | apply below_alloc | apply pw_below_drewN | apply below_drew1) | exact HB.out)⟩⟩
  case round =>
   clear H'
   try clear c1
   try clear p2
   try clear c4
   try clear c5
   try clear c7
   try clear HO_6
   obtain ⟨x6_1, HA, HK1, HO_6, HB⟩ := hrel
   cases gk with
   | zero => exact absurd HA.out (by simp [impl_FirstFiner.l0])
   | succ k1 =>
    have H := HA.out
    clear HA
    simp only [impl_FirstFiner.l0] at H
    by_cases c8 : (x6_1.length : Int) < (wrap64 (a0 - 3))
    ·rw [if_pos c8] at H
     have c8b0 : decide ((x6_1.length : Int) < (wrap64 (a0 - 3))) = true := decide_eq_true c8
     clear c8
     replace H := Option.bind_eq_some_iff.mp H
     obtain ⟨t301, A90, H⟩ := H
     replace H : (if 0 < (t301.length : Int) then ((impl_added.f k1 x6_1 ((rd_T36 t301 0).f0) ((rd_T36 t301 0).f1)).bind fun t305 => (impl_FirstFiner.l0 k1 a0 t305)) else (none)) = some (r1, r2) := H
     have A9 := Aside0.mk A90
     clear A90
     by_cases c10 : 0 < (t301.length : Int)
     ·rw [if_pos c10] at H
      have c10b0 : decide (0 < (t301.length : Int)) = true := decide_eq_true c10
      have c10b1 : decide (0 < t301.length) = true := decide_eq_true (by omega)
      clear c10
      replace H := Option.bind_eq_some_iff.mp H
      obtain ⟨t305, A110, H⟩ := H
      replace H : (impl_FirstFiner.l0 k1 a0 t305) = some (r1, r2) := H
      have A11 := Aside0.mk A110
      clear A110
      have H' := Aside0.mk H
      clear H
      obtain ⟨Ao12, co12, eo12⟩ := Kd.R_slice HO_6.out
      subst eo12
      go_wp2_with (first | ((with_reducible refine gate_callee (f := 91) rfl ?_); refine goesL_ (some 21) rfl rfl Try.func91 (by kernel_rfl) rfl #[.int .i64 a0, .slice Ao12 x6_1.length co12] rfl amp_ ?_; (with_reducible refine (impl_freeDiagonals.calls k1 a0 _ _ x6_1 t301 _ ?side1 ?side2 A9.out).mono ?_); (case side1 => repeat (first | exact (Kd.R_reads' HO_6.out).2.2 | (with_reducible refine Kd.C_alloc ?_ _) | (with_reducible refine Kd.C_drewN ?_ _) | (with_reducible refine Kd.C_drew ?_))); (case side2 => exact (Kd.R_reads' HO_6.out).2.1); rintro e w13 ⟨v302, rfl, ho0, hb⟩; refine ⟨_, rfl, ?_⟩; have n0_ := Aside0.mk (Kd.R_elder' (ra_ HO_6.out) (Kd.R_base ho0) hb); have n1_ := Aside0.mk (Kd.R_lower (Kd.R_new' ho0 (Kd.R_lt (ra_ HO_6.out))) (below_size blw_)); have n2_ := Aside0.mk (below_step blw_ hb); clear HO_6; clear HB; have HO_6 := n0_; have HO303 := n1_; have HB := n2_; clear n0_ n1_ n2_; (try clear hb); (try clear hb2); (try clear hk); (try clear hi); (try clear ho0); obtain ⟨Ao14, co14, eo14⟩ := Kd.R_slice HO303.out; subst eo14; have p304 : 0 ≤ (0 : Int) := (by omega); have q304 : 0 < (t301.length : Int) := odt_; obtain ⟨ad304, e304, hx304_0, hx304_1⟩ := at_T36 (Kd.R_reads' HO303.out).2.2 0 p304 q304; cases e304; have qi304 : (0 < t301.length) = True := eq_true (by omega); (try rw [show ((0 : Int)).toNat = 0 from rfl] at hx304_0); (try rw [show 0 * 2 = 0 from rfl] at hx304_0); (try rw [Addr.add_zero'] at hx304_0); (try rw [show ((0 : Int)).toNat = 0 from rfl] at hx304_1); (try rw [show 0 * 2 = 0 from rfl] at hx304_1); (try rw [Addr.add_zero'] at hx304_1); replace p304 := eq_true p304; replace q304 := eq_true q304) | ((with_reducible refine gate_callee (f := 79) rfl ?_); refine goesL_ (some 24) rfl rfl Try.func79 (by kernel_rfl) rfl #[.slice Ao12 x6_1.length co12, .agg #[.int .i64 ((rd_T36 t301 0).f0), .int .i64 ((rd_T36 t301 0).f1)]] rfl amp_ ?_; (with_reducible refine (impl_added.calls k1 _ _ x6_1 ((rd_T36 t301 0).f0) ((rd_T36 t301 0).f1) t305 _ ?side1 ?side2 A11.out).mono ?_); (case side1 => repeat (first | exact (Kd.R_reads' HO_6.out).2.2 | (with_reducible refine Kd.C_alloc ?_ _) | (with_reducible refine Kd.C_drewN ?_ _) | (with_reducible refine Kd.C_drew ?_))); (case side2 => exact (Kd.R_reads' HO_6.out).2.1); rintro e w15 ⟨v306, rfl, ho0, hb⟩; refine ⟨_, rfl, ?_⟩; have n0_ := Aside0.mk (Kd.R_elder' (ra_ HO_6.out) (Kd.R_base ho0) hb); have n1_ := Aside0.mk (Kd.R_elder' (ra_ HO303.out) (Kd.R_base ho0) hb); have n2_ := Aside0.mk (Kd.R_lower (Kd.R_new' (Kd.R_new' ho0 (Kd.R_lt (ra_ HO_6.out))) (Kd.R_lt (ra_ HO303.out))) (below_size blw_)); have n3_ := Aside0.mk (below_step blw_ hb); clear HO_6; clear HO303; clear HB; have HO_6 := n0_; have HO303 := n1_; have HO307 := n2_; have HB := n3_; clear n0_ n1_ n2_ n3_; (try clear hb); (try clear hb2); (try clear hk); (try clear hi); (try clear ho0)))
      go_roundg k1
      case measure => have := HK1.out; omega
      case rel => exact ⟨(t305), H', ⟨by have := HK1.out; omega⟩, ⟨by (with_reducible repeat (first | apply Kd.R_alloc | apply Kd.R_drewN | apply Kd.R_drew)); exact Kd.R_mono HO307.out (fun _ hk => trivial)⟩, ⟨by repeat (first | (with_reducible first | exact HB.out | apply below_alloc | apply pw_below_drewN | apply below_drew1) | exact HB.out)⟩⟩
     ·rw [if_neg c10] at H
      exact absurd H (by simp)
    ·rw [if_neg c8] at H
     have c8b0 : decide ((x6_1.length : Int) < (wrap64 (a0 - 3))) = false := decide_eq_false c8
     clear c8
     simp only [Option.some.injEq, Prod.mk.injEq] at H
     obtain ⟨rfl, rfl⟩ := H
     obtain ⟨Ao16, co16, eo16⟩ := Kd.R_slice HO_6.out
     subst eo16
     go_wp2
     go_ret2
     exact ⟨_, by first | rfl | (simp [errW_none, errW_some] <;> rfl) | (simp [*, errW_none, errW_some] <;> rfl), by (with_reducible repeat (first | apply Kd.R_alloc | apply Kd.R_drewN | apply Kd.R_drew)); exact HO_6.out, by repeat (first | (with_reducible first | exact HB.out | apply below_alloc | apply pw_below_drewN | apply below_drew1) | exact HB.out)⟩
 ·replace c4 := Bool.eq_false_iff.mpr c4
  subst c4
  have H1 : (some (([] : List (S36)), false)) = some (r1, r2) := by rw [if_neg (show ¬ (false = true) by decide)] at H; exact H
  clear H
  have H := H1
  clear H1
  simp only [Option.some.injEq, Prod.mk.injEq] at H
  obtain ⟨rfl, rfl⟩ := H
  go_enter Try.func51, Try.ntmps51
  go_wp2_with (first | ((with_reducible refine gate_callee (f := 74) rfl ?_); refine goesL_ (some 9) rfl rfl Try.func74 (by kernel_rfl) rfl #[.int .i64 a0, .slice A1 l1.length c1] rfl amp_ ?_; (with_reducible refine (impl_IsCut.calls k a0 _ _ l1 false _ ?side1 ?side2 A3.out).mono ?_); (case side1 => repeat (first | exact HR1.out | (with_reducible refine Kd.C_alloc ?_ _) | (with_reducible refine Kd.C_drewN ?_ _) | (with_reducible refine Kd.C_drew ?_))); (case side2 => exact HC1.out); rintro e w17 ⟨rfl, hb⟩; refine ⟨_, rfl, ?_⟩; have n0_ := Aside0.mk (below_step blw_ hb); clear HB; have HB := n0_; clear n0_; (try clear hb); (try clear hb2); (try clear hk); (try clear hi)))
  go_ret2
  exact ⟨_, by first | rfl | (simp [errW_none, errW_some] <;> rfl) | (simp [*, errW_none, errW_some] <;> rfl), by first | exact Kd.R_nil _ _ _ _ _ | exact Kd.N_nil _ _ _ _ _ | exact Kd.V_nil _ _ _ _ _ | exact Kd.Q_nil _ _ _ _ _ | exact Kd.S_nil _ _ _ _ _, by repeat (first | (with_reducible first | exact HB.out | apply below_alloc | apply pw_below_drewN | apply below_drew1) | exact HB.out)⟩

end Go.Proofs.Ytkipgbakoljaeaa.PFnExactFirstFiner
