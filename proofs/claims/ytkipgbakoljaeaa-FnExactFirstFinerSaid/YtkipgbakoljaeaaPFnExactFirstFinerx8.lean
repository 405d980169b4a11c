-- WRITTEN BY A PROGRAM OF THIS WORK (wip/tools/ppatch.py) for this claim.
import Derived.Test.YtkipgbakoljaeaaPFnExactFirstFinerx0
import Derived.Test.YtkipgbakoljaeaaPFnExactFirstFinerx7
namespace Go.Proofs.Ytkipgbakoljaeaa.PFnExactFirstFiner
open Go.RowKit Go.Proofs.YtkipgbakoljaeaaW.PrintWords Go.Proofs.YtkipgbakoljaeaaW.PrintLast Go.Proofs.YtkipgbakoljaeaaW.PrintMore
attribute [local go_sem] max2_int min2_int max_two min_two max_three min_three max_four min_four   -- for this text's walks alone
set_option linter.unusedVariables false
set_option linter.unusedSimpArgs false

-- TOLD FOR impl_Diagonal_89_s1: slices.IndexFunc[[]impl.Diagonal,impl.Diagonal] | impl.crosses$1
/-! ### impl_Diagonal_89_s1: function 100001 -/
def impl_Diagonal_89_s1.l0 : Nat → List (S36) → Int → Int → Int → Int → Option (Int)
 | 0, _, _, _, _, _ => none
 | k + 1, x0, x7, x8, x21000, x21001 => if x8 < x7 then (if 0 ≤ x8 then (if x8 < (x0.length : Int) then ((impl_crosses_1_s2.f ((rd_T36 x0 x8).f0) ((rd_T36 x0 x8).f1) x21000 x21001).bind fun t241 => (if t241 = true then (some x8) else (impl_Diagonal_89_s1.l0 k x0 x7 (wrap64 (x8 + 1)) x21000 x21001))) else (none)) else (none)) else (some (-1))
def impl_Diagonal_89_s1.f (k : Nat) (l0 : List (S36)) (a1_0_0 : Int) (a1_0_1 : Int) : Option (Int) := impl_Diagonal_89_s1.l0 k l0 (l0.length : Int) 0 a1_0_0 a1_0_1
theorem impl_Diagonal_89_s1.mono_l : ∀ k, (∀ y0 y1 y2 y3 y4, LeO (impl_Diagonal_89_s1.l0 k y0 y1 y2 y3 y4) (impl_Diagonal_89_s1.l0 (k + 1) y0 y1 y2 y3 y4))
 | 0 => fun _ _ _ _ _ r h => by simp [impl_Diagonal_89_s1.l0] at h
 | k + 1 => by
  have ih0 := impl_Diagonal_89_s1.mono_l k
  ·intro y0 y1 y2 y3 y4
   unfold impl_Diagonal_89_s1.l0
   repeat' first
   | (with_reducible exact ih0 _ _ _ _ _)
   | (with_reducible exact LeO.refl _)
   | (with_reducible exact LeO.none _)
   | (with_reducible refine LeO.ite ?_ ?_)
   | (with_reducible refine LeO.bind ?_ (fun _ => ?_))
   | exact ih0 _ _ _ _ _
   | exact LeO.none _
   | refine LeO.ite ?_ ?_
   | refine LeO.bind ?_ (fun _ => ?_)
theorem impl_Diagonal_89_s1.mono : ∀ a0 a1 a2 k, LeO (impl_Diagonal_89_s1.f k a0 a1 a2) (impl_Diagonal_89_s1.f (k + 1) a0 a1 a2) := by
 intro a0 a1 a2 k
 have ih0 := impl_Diagonal_89_s1.mono_l k
 unfold impl_Diagonal_89_s1.f
 repeat' first
   | (with_reducible exact ih0 _ _ _ _ _)
   | (with_reducible exact LeO.refl _)
   | (with_reducible exact LeO.none _)
   | (with_reducible refine LeO.ite ?_ ?_)
   | (with_reducible refine LeO.bind ?_ (fun _ => ?_))
   | exact ih0 _ _ _ _ _
   | exact LeO.none _
   | refine LeO.ite ?_ ?_
   | refine LeO.bind ?_ (fun _ => ?_)
set_option maxHeartbeats 8000000 in
set_option maxRecDepth 100000 in
theorem impl_Diagonal_89_s1.calls (k : Nat) (A0 : Option Addr) (c0 : Nat) (l0 : List (S36)) (gc1_0 : Nat) (a1_0_0 : Int) (a1_0_1 : Int) (r : Int) (w : World) (hr0 : Kd.C k36 w A0 l0.length l0) (hc0 : l0.length ≤ c0) (hb1_0 : w.heap[gc1_0]? = some (.cells #[.int .i64 a1_0_0, .int .i64 a1_0_1] 36 (0, 0))) (h : impl_Diagonal_89_s1.f k l0 a1_0_0 a1_0_1 = some r) :
  Calls Try.prog 89 #[.slice A0 l0.length c0, .func (.func 122) #[] #[.pointer (some ⟨gc1_0, 0, none⟩)]] w fun e w' => e = .returned (.int .i64 r) ∧ Below w.heap.size w w' := by
 have hu36 := Try.underlying36
 have HR0 := Aside0.mk hr0
 have HC0 := Aside0.mk hc0
 clear hr0 hc0
 have BK20 := Aside0.mk hb1_0
 clear hb1_0
 have HB := Aside0.mk (Below.refl w.heap.size w)
 have H : (impl_Diagonal_89_s1.l0 k l0 (l0.length : Int) 0 a1_0_0 a1_0_1) = some r := h
 clear h
 have H' := Aside0.mk H
 clear H
 go_enter Try.func89, Try.ntmps89
 go_wp2
 go_loopg [8] k (fun kq v8 w' => ∃ (x8_1 : Int), v8 = .int .i64 x8_1 ∧ Aside0 (impl_Diagonal_89_s1.l0 kq l0 (l0.length : Int) x8_1 a1_0_0 a1_0_1 = some r) ∧ Aside0 (kq ≤ k) ∧ Aside0 (w'.heap[gc1_0]? = some (.cells #[.int .i64 a1_0_0, .int .i64 a1_0_1] 36 (0, 0))) ∧ Aside0 (Below w.heap.size w w'))
 case atStart => exact ⟨(0), (by first | rfl | (simp; done) | (simp [*]; done)), H', ⟨Nat.le_refl _⟩, ⟨bk_ BK20.out⟩, ⟨by repeat (first | (with_reducible first | exact HB.out | apply below_alloc | apply pw_below_drewN | apply below_drew1 | refine below_set ?_ GE20.out) | exact HB.out)⟩⟩
 case round =>
  clear H'
  try clear c1
  try clear p2
  obtain ⟨x8_1, rfl, HA, HK1, BK20, HB⟩ := hrel
  cases gk with
  | zero => exact absurd HA.out (by simp [impl_Diagonal_89_s1.l0])
  | succ k1 =>
   have H := HA.out
   clear HA
   simp only [impl_Diagonal_89_s1.l0] at H
   by_cases c3 : x8_1 < (l0.length : Int)
   ·rw [if_pos c3] at H
    have c3b0 : decide (x8_1 < (l0.length : Int)) = true := decide_eq_true c3
    clear c3
    by_cases c4 : 0 ≤ x8_1
    ·rw [if_pos c4] at H
     have c4b0 : decide (0 ≤ x8_1) = true := decide_eq_true c4
     clear c4
     by_cases c5 : x8_1 < (l0.length : Int)
     ·rw [if_pos c5] at H
      have c5b0 : decide (x8_1 < (l0.length : Int)) = true := decide_eq_true c5
      clear c5
      replace H := Option.bind_eq_some_iff.mp H
      obtain ⟨t241, A60, H⟩ := H
      replace H : (if t241 = true then (some x8_1) else (impl_Diagonal_89_s1.l0 k1 l0 (l0.length : Int) (wrap64 (x8_1 + 1)) a1_0_0 a1_0_1)) = some r := H
      have A6 := Aside0.mk A60
      clear A60
      by_cases c7 : t241 = true
      ·subst c7
       have H1 : (some x8_1) = some r := by rw [if_pos rfl] at H; exact H
       clear H
       have H := H1
       clear H1
       obtain rfl := Option.some.inj H
       have p240 : 0 ≤ (x8_1 : Int) := odt_
       have q240 : x8_1 < (l0.length : Int) := odt_
       obtain ⟨ad240, e240, hx240_0, hx240_1⟩ := at_T36 HR0.out x8_1 p240 q240
       cases e240
       (first | replace hx240_0 := (HB.out.cell (World.block_lt_of_cell? w _ hx240_0)).trans hx240_0 | skip)
       (first | replace hx240_1 := (HB.out.cell (World.block_lt_of_cell? w _ hx240_1)).trans hx240_1 | skip)
       replace p240 := eq_true p240
       replace q240 := eq_true q240
       go_wp2_with (first | (go_at_call 122; (with_reducible refine (impl_crosses_1_s2.calls ((rd_T36 l0 x8_1).f0) ((rd_T36 l0 x8_1).f1) gc1_0 a1_0_0 a1_0_1 true _ ?side1 A6.out).mono ?_); (case side1 => (with_reducible repeat (first | refine blk_drewN ?_ _ | refine blk_drew ?_ | refine blk_alloc ?_ _)); exact BK20.out); rintro e w8 ⟨rfl, hb⟩; (try replace hb := Drawn0.below hb); have n0_ := Aside0.mk (blk_below (g := gc1_0) (o := .cells #[.int .i64 a1_0_0, .int .i64 a1_0_1] 36 (0, 0)) (bk_ BK20.out) hb); have n1_ := Aside0.mk (below_step (by repeat (first | (with_reducible first | exact HB.out | apply below_alloc | apply pw_below_drewN | apply below_drew1 | refine below_set ?_ GE20.out) | exact HB.out)) hb); clear BK20; clear HB; have BK20 := n0_; have HB := n1_; clear n0_ n1_; (try clear hb); (try clear hb2); (try clear hk); (try clear hi)))
       go_ret
       exact ⟨by first | rfl | (simp [errW_none, errW_some] <;> rfl) | (simp [*, errW_none, errW_some] <;> rfl), by repeat (first | (with_reducible first | exact HB.out | apply below_alloc | apply pw_below_drewN | apply below_drew1 | refine below_set ?_ GE20.out) | exact HB.out)⟩
      ·replace c7 := Bool.eq_false_iff.mpr c7
       subst c7
       have H1 : (impl_Diagonal_89_s1.l0 k1 l0 (l0.length : Int) (wrap64 (x8_1 + 1)) a1_0_0 a1_0_1) = some r := by rw [if_neg (show ¬ (false = true) by decide)] at H; exact H
       clear H
       have H := H1
       clear H1
       have H' := Aside0.mk H
       clear H
       have p240 : 0 ≤ (x8_1 : Int) := odt_
       have q240 : x8_1 < (l0.length : Int) := odt_
       obtain ⟨ad240, e240, hx240_0, hx240_1⟩ := at_T36 HR0.out x8_1 p240 q240
       cases e240
       (first | replace hx240_0 := (HB.out.cell (World.block_lt_of_cell? w _ hx240_0)).trans hx240_0 | skip)
       (first | replace hx240_1 := (HB.out.cell (World.block_lt_of_cell? w _ hx240_1)).trans hx240_1 | skip)
       replace p240 := eq_true p240
       replace q240 := eq_true q240
       go_wp2_with (first | (go_at_call 122; (with_reducible refine (impl_crosses_1_s2.calls ((rd_T36 l0 x8_1).f0) ((rd_T36 l0 x8_1).f1) gc1_0 a1_0_0 a1_0_1 false _ ?side1 A6.out).mono ?_); (case side1 => (with_reducible repeat (first | refine blk_drewN ?_ _ | refine blk_drew ?_ | refine blk_alloc ?_ _)); exact BK20.out); rintro e w9 ⟨rfl, hb⟩; (try replace hb := Drawn0.below hb); have n0_ := Aside0.mk (blk_below (g := gc1_0) (o := .cells #[.int .i64 a1_0_0, .int .i64 a1_0_1] 36 (0, 0)) (bk_ BK20.out) hb); have n1_ := Aside0.mk (below_step (by repeat (first | (with_reducible first | exact HB.out | apply below_alloc | apply pw_below_drewN | apply below_drew1 | refine below_set ?_ GE20.out) | exact HB.out)) hb); clear BK20; clear HB; have BK20 := n0_; have HB := n1_; clear n0_ n1_; (try clear hb); (try clear hb2); (try clear hk); (try clear hi)))
       go_roundg k1
       case measure => have := HK1.out; omega
       case rel => exact ⟨(wrap64 (x8_1 + 1)), (by first | rfl | (simp; done) | (simp [*]; done)), H', ⟨by have := HK1.out; omega⟩, ⟨bk_ BK20.out⟩, ⟨by repeat (first | (with_reducible first | exact HB.out | apply below_alloc | apply pw_below_drewN | apply below_drew1 | refine below_set ?_ GE20.out) | exact HB.out)⟩⟩
     ·rw [if_neg c5] at H
      exact absurd H (by simp)
    ·rw [if_neg c4] at H
     exact absurd H (by simp)
   ·rw [if_neg c3] at H
    have c3b0 : decide (x8_1 < (l0.length : Int)) = false := decide_eq_false c3
    clear c3
    obtain rfl := Option.some.inj H
    go_wp2
    go_ret
    exact ⟨by first | rfl | (simp [errW_none, errW_some] <;> rfl) | (simp [*, errW_none, errW_some] <;> rfl), by repeat (first | (with_reducible first | exact HB.out | apply below_alloc | apply pw_below_drewN | apply below_drew1 | refine below_set ?_ GE20.out) | exact HB.out)⟩

-- TOLD FOR impl_Diagonal_84_s0: slices.ContainsFunc[[]impl.Diagonal,impl.Diagonal] | impl.crosses$1
/-! ### impl_Diagonal_84_s0: function 100000 -/
def impl_Diagonal_84_s0.f (k : Nat) (l0 : List (S36)) (a1_0_0 : Int) (a1_0_1 : Int) : Option (Bool) := (impl_Diagonal_89_s1.f k l0 a1_0_0 a1_0_1).bind fun t242 => (some (decide (t242 ≥ 0)))
theorem impl_Diagonal_84_s0.mono : ∀ a0 a1 a2 k, LeO (impl_Diagonal_84_s0.f k a0 a1 a2) (impl_Diagonal_84_s0.f (k + 1) a0 a1 a2) := by
 intro a0 a1 a2 k
 unfold impl_Diagonal_84_s0.f
 repeat' first
   | (with_reducible exact impl_Diagonal_89_s1.mono _ _ _ _)
   | (with_reducible exact LeO.refl _)
   | (with_reducible exact LeO.none _)
   | (with_reducible refine LeO.ite ?_ ?_)
   | (with_reducible refine LeO.bind ?_ (fun _ => ?_))
   | exact impl_Diagonal_89_s1.mono _ _ _ _
   | exact LeO.none _
   | refine LeO.ite ?_ ?_
   | refine LeO.bind ?_ (fun _ => ?_)
set_option maxHeartbeats 8000000 in
set_option maxRecDepth 100000 in
theorem impl_Diagonal_84_s0.calls (k : Nat) (A0 : Option Addr) (c0 : Nat) (l0 : List (S36)) (gc1_0 : Nat) (a1_0_0 : Int) (a1_0_1 : Int) (r : Bool) (w : World) (hr0 : Kd.C k36 w A0 l0.length l0) (hc0 : l0.length ≤ c0) (hb1_0 : w.heap[gc1_0]? = some (.cells #[.int .i64 a1_0_0, .int .i64 a1_0_1] 36 (0, 0))) (h : impl_Diagonal_84_s0.f k l0 a1_0_0 a1_0_1 = some r) :
  Calls Try.prog 84 #[.slice A0 l0.length c0, .func (.func 122) #[] #[.pointer (some ⟨gc1_0, 0, none⟩)]] w fun e w' => e = .returned (.bool r) ∧ Below w.heap.size w w' := by
 have HR0 := Aside0.mk hr0
 have HC0 := Aside0.mk hc0
 clear hr0 hc0
 have BK20 := Aside0.mk hb1_0
 clear hb1_0
 have HB := Aside0.mk (Below.refl w.heap.size w)
 have H : ((impl_Diagonal_89_s1.f k l0 a1_0_0 a1_0_1).bind fun t242 => (some (decide (t242 ≥ 0)))) = some r := h
 clear h
 replace H := Option.bind_eq_some_iff.mp H
 obtain ⟨t242, A30, H⟩ := H
 replace H : (some (decide (t242 ≥ 0))) = some r := H
 have A3 := Aside0.mk A30
 clear A30
 obtain rfl := Option.some.inj H
 go_enter Try.func84, Try.ntmps84
 go_wp2_with (first | ((with_reducible refine gate_callee (f := 89) rfl ?_); refine goesL_ (some 7) rfl rfl Try.func89 (by kernel_rfl) rfl #[.slice A0 l0.length c0, .func (.func 122) #[] #[.pointer (some ⟨gc1_0, 0, none⟩)]] rfl amp_ ?_; (with_reducible refine (impl_Diagonal_89_s1.calls k _ _ l0 gc1_0 a1_0_0 a1_0_1 t242 _ ?side1 ?side2 ?side3 A3.out).mono ?_); (case side1 => repeat (first | exact HR0.out | (with_reducible refine Kd.C_alloc ?_ _) | (with_reducible refine Kd.C_drewN ?_ _) | (with_reducible refine Kd.C_drew ?_))); (case side2 => exact HC0.out); (case side3 => (with_reducible repeat (first | refine blk_drewN ?_ _ | refine blk_drew ?_ | refine blk_alloc ?_ _)); exact BK20.out); rintro e w4 ⟨rfl, hb⟩; refine ⟨_, rfl, ?_⟩; have n0_ := Aside0.mk (blk_below (g := gc1_0) (o := .cells #[.int .i64 a1_0_0, .int .i64 a1_0_1] 36 (0, 0)) (bk_ BK20.out) hb); have n1_ := Aside0.mk (below_step (by repeat (first | (with_reducible first | exact HB.out | apply below_alloc | apply pw_below_drewN | apply below_drew1 | refine below_set ?_ GE20.out) | exact HB.out)) hb); clear BK20; clear HB; have BK20 := n0_; have HB := n1_; clear n0_ n1_; (try clear hb); (try clear hb2); (try clear hk); (try clear hi)))
 go_ret
 exact ⟨by first | rfl | (simp [errW_none, errW_some] <;> rfl) | (simp [*, errW_none, errW_some] <;> rfl), by repeat (first | (with_reducible first | exact HB.out | apply below_alloc | apply pw_below_drewN | apply below_drew1 | refine below_set ?_ GE20.out) | exact HB.out)⟩

/-! ### impl_crosses: function 111 -/
def impl_crosses.f (k : Nat) (l0 : List (S36)) (a1_0 : Int) (a1_1 : Int) : Option (Bool) := (impl_Diagonal_84_s0.f k l0 a1_0 a1_1).bind fun t244 => (some t244)
theorem impl_crosses.mono : ∀ a0 a1 a2 k, LeO (impl_crosses.f k a0 a1 a2) (impl_crosses.f (k + 1) a0 a1 a2) := by
 intro a0 a1 a2 k
 unfold impl_crosses.f
 repeat' first
   | (with_reducible exact impl_Diagonal_84_s0.mono _ _ _ _)
   | (with_reducible exact LeO.refl _)
   | (with_reducible exact LeO.none _)
   | (with_reducible refine LeO.ite ?_ ?_)
   | (with_reducible refine LeO.bind ?_ (fun _ => ?_))
   | exact impl_Diagonal_84_s0.mono _ _ _ _
   | exact LeO.none _
   | refine LeO.ite ?_ ?_
   | refine LeO.bind ?_ (fun _ => ?_)
set_option maxHeartbeats 8000000 in
set_option maxRecDepth 100000 in
theorem impl_crosses.calls (k : Nat) (A0 : Option Addr) (c0 : Nat) (l0 : List (S36)) (a1_0 : Int) (a1_1 : Int) (r : Bool) (w : World) (hr0 : Kd.C k36 w A0 l0.length l0) (hc0 : l0.length ≤ c0) (h : impl_crosses.f k l0 a1_0 a1_1 = some r) :
  Calls Try.prog 111 #[.slice A0 l0.length c0, .agg #[.int .i64 a1_0, .int .i64 a1_1]] w fun e w' => e = .returned (.bool r) ∧ Below w.heap.size w w' := by
 have hu36 := Try.underlying36
 have HR0 := Aside0.mk hr0
 have HC0 := Aside0.mk hc0
 clear hr0 hc0
 have HB := Aside0.mk (Below.refl w.heap.size w)
 have H : ((impl_Diagonal_84_s0.f k l0 a1_0 a1_1).bind fun t244 => (some t244)) = some r := h
 clear h
 replace H := Option.bind_eq_some_iff.mp H
 obtain ⟨t244, A30, H⟩ := H
 replace H : (some t244) = some r := H
 have A3 := Aside0.mk A30
 clear A30
 obtain rfl := Option.some.inj H
 go_enter Try.func111, Try.ntmps111
 go_wp2_with (first | ((with_reducible refine gate_dst (N := 3) rfl ?_); refine box_event ?hg (N := 3) ?hd (cs := #[.int .i64 a1_0, .int .i64 a1_1]) (t := 36) ?hr ?_; (case hd => rfl); (case hg => rfl); (case hr => first | (go_simp; done) | (go_simp; rfl)); intro gb243 hg w4 hbox hb; have n0_ := Aside0.mk (below_step blw_ hb); have n1_ := Aside0.mk (hbox); have n2_ := Aside0.mk ((by rw [hg]; exact (below_size blw_) : w.heap.size ≤ gb243)); have n3_ := Aside0.mk ((by rw [hg]; exact (below_size blw_) : w.heap.size ≤ gb243)); clear HB; have HB := n0_; have BK243 := n1_; have GW243 := n2_; have GE243 := n3_; clear n0_ n1_ n2_ n3_; clear hb hbox hg) | ((with_reducible refine gate_callee (f := 84) rfl ?_); refine goesL_ (some 7) rfl rfl Try.func84 (by kernel_rfl) rfl #[.slice A0 l0.length c0, .func (.func 122) #[] #[.pointer (some ⟨gb243, 0, none⟩)]] rfl amp_ ?_; (with_reducible refine (impl_Diagonal_84_s0.calls k _ _ l0 gb243 a1_0 a1_1 t244 _ ?side1 ?side2 ?side3 A3.out).mono ?_); (case side1 => repeat (first | exact (Kd.C_below HR0.out HB.out) | (with_reducible refine Kd.C_alloc ?_ _) | (with_reducible refine Kd.C_drewN ?_ _) | (with_reducible refine Kd.C_drew ?_))); (case side2 => exact HC0.out); (case side3 => (with_reducible repeat (first | refine blk_drewN ?_ _ | refine blk_drew ?_ | refine blk_alloc ?_ _)); exact BK243.out); rintro e w5 ⟨rfl, hb⟩; refine ⟨_, rfl, ?_⟩; have n0_ := Aside0.mk (blk_below (g := gb243) (o := .cells #[.int .i64 a1_0, .int .i64 a1_1] 36 (0, 0)) (bk_ BK243.out) hb); have n1_ := Aside0.mk (below_step (by repeat (first | (with_reducible first | exact HB.out | apply below_alloc | apply pw_below_drewN | apply below_drew1 | refine below_set ?_ GE243.out) | exact HB.out)) hb); clear BK243; clear HB; have BK243 := n0_; have HB := n1_; clear n0_ n1_; (try clear hb); (try clear hb2); (try clear hk); (try clear hi)))
 go_ret
 exact ⟨by first | rfl | (simp [errW_none, errW_some] <;> rfl) | (simp [*, errW_none, errW_some] <;> rfl), by repeat (first | (with_reducible first | exact HB.out | apply below_alloc | apply pw_below_drewN | apply below_drew1 | refine below_set ?_ GE243.out) | exact HB.out)⟩

end Go.Proofs.Ytkipgbakoljaeaa.PFnExactFirstFiner
