-- WRITTEN BY A PROGRAM OF THIS WORK (wip/tools/ppatch.py) for this claim.
import Derived.Test.YtkipgbakoljaeaaPFnExactAllFlipsx0
import Derived.Test.YtkipgbakoljaeaaPFnExactAllFlipsx7
import Derived.Test.YtkipgbakoljaeaaPFnExactAllFlipsx10
namespace Go.Proofs.Ytkipgbakoljaeaa.PFnExactAllFlips
open Go.RowKit Go.Proofs.YtkipgbakoljaeaaW.PrintWords Go.Proofs.YtkipgbakoljaeaaW.PrintLast Go.Proofs.YtkipgbakoljaeaaW.PrintMore
attribute [local go_sem] max2_int min2_int max_two min_two max_three min_three max_four min_four   -- for this text's walks alone
set_option linter.unusedVariables false
set_option linter.unusedSimpArgs false

/-! ### impl_otherOf: function 69 -/
mutual
def impl_otherOf.l0 : Nat → Int → Int → List (List Int) → Int → Int → Int → Int → Option (Int × Int)
 | 0, _, _, _, _, _, _, _ => none
 | k + 1, x7, x8, x15, x16, x17, x286000, x286001 => if x17 < x16 then (if 0 ≤ x17 then (if x17 < (x15.length : Int) then ((slices_Contains_int_int.f k (rd_L4 x15 x17) x286000).bind fun t291 => (if t291 = true then ((slices_Contains_int_int.f k (rd_L4 x15 x17) x286001).bind fun t292 => (if t292 = true then (impl_otherOf.l1 k x7 x8 x15 x16 x17 (rd_L4 x15 x17) ((rd_L4 x15 x17).length : Int) 0 x286000 x286001) else (impl_otherOf.l0 k x7 x8 x15 x16 (wrap64 (x17 + 1)) x286000 x286001))) else (impl_otherOf.l0 k x7 x8 x15 x16 (wrap64 (x17 + 1)) x286000 x286001))) else (none)) else (none)) else (some (mn x7 x8, mx x7 x8))
def impl_otherOf.l1 : Nat → Int → Int → List (List Int) → Int → Int → List Int → Int → Int → Int → Int → Option (Int × Int)
 | 0, _, _, _, _, _, _, _, _, _, _ => none
 | k + 1, x7, x8, x15, x16, x17, x33, x34, x35, x286000, x286001 => if x35 < x34 then (if 0 ≤ x35 then (if x35 < (x33.length : Int) then (if (rd x33 x35) = x286000 then (impl_otherOf.j2 k x7 x8 (rd x33 x35) x15 x16 x17 x33 x34 x35 true x286000 x286001) else (impl_otherOf.j2 k x7 x8 (rd x33 x35) x15 x16 x17 x33 x34 x35 ((rd x33 x35) == x286001) x286000 x286001)) else (none)) else (none)) else (impl_otherOf.l0 k x7 x8 x15 x16 (wrap64 (x17 + 1)) x286000 x286001)
def impl_otherOf.j2 : Nat → Int → Int → Int → List (List Int) → Int → Int → List Int → Int → Int → Bool → Int → Int → Option (Int × Int)
 | 0, _, _, _, _, _, _, _, _, _, _, _, _ => none
 | k + 1, x7, x8, x12, x15, x16, x17, x33, x34, x35, x40, x286000, x286001 => if x40 = true then (impl_otherOf.l1 k x7 x8 x15 x16 x17 x33 x34 (wrap64 (x35 + 1)) x286000 x286001) else ((impl_within.f x12 x286000 x286001).bind fun t294 => (if t294 = true then (impl_otherOf.l1 k x12 x8 x15 x16 x17 x33 x34 (wrap64 (x35 + 1)) x286000 x286001) else (impl_otherOf.l1 k x7 x12 x15 x16 x17 x33 x34 (wrap64 (x35 + 1)) x286000 x286001)))
end
def impl_otherOf.f (k : Nat) (a0 : Int) (l1 : List (S36)) (a2_0 : Int) (a2_1 : Int) : Option (Int × Int) := (impl_triangles.f k a0 l1).bind fun t287 => (impl_otherOf.l0 k (-1) (-1) t287 (t287.length : Int) 0 a2_0 a2_1)
theorem impl_otherOf.mono_l : ∀ k, (∀ y0 y1 y2 y3 y4 y5 y6, LeO (impl_otherOf.l0 k y0 y1 y2 y3 y4 y5 y6) (impl_otherOf.l0 (k + 1) y0 y1 y2 y3 y4 y5 y6)) ∧ (∀ y0 y1 y2 y3 y4 y5 y6 y7 y8 y9, LeO (impl_otherOf.l1 k y0 y1 y2 y3 y4 y5 y6 y7 y8 y9) (impl_otherOf.l1 (k + 1) y0 y1 y2 y3 y4 y5 y6 y7 y8 y9)) ∧ (∀ y0 y1 y2 y3 y4 y5 y6 y7 y8 y9 y10 y11, LeO (impl_otherOf.j2 k y0 y1 y2 y3 y4 y5 y6 y7 y8 y9 y10 y11) (impl_otherOf.j2 (k + 1) y0 y1 y2 y3 y4 y5 y6 y7 y8 y9 y10 y11))
 | 0 => ⟨fun _ _ _ _ _ _ _ r h => by simp [impl_otherOf.l0] at h, fun _ _ _ _ _ _ _ _ _ _ r h => by simp [impl_otherOf.l1] at h, fun _ _ _ _ _ _ _ _ _ _ _ _ r h => by simp [impl_otherOf.j2] at h⟩
 | k + 1 => by
  obtain ⟨ih0, ih1, ih2⟩ := impl_otherOf.mono_l k
  refine ⟨?_, ?_, ?_⟩
  ·intro y0 y1 y2 y3 y4 y5 y6
   unfold impl_otherOf.l0
   repeat' first
   | (with_reducible exact ih0 _ _ _ _ _ _ _)
   | (with_reducible exact ih1 _ _ _ _ _ _ _ _ _ _)
   | (with_reducible exact ih2 _ _ _ _ _ _ _ _ _ _ _ _)
   | (with_reducible exact impl_triangles.mono _ _ _)
   | (with_reducible exact slices_Contains_int_int.mono _ _ _)
   | (with_reducible exact LeO.refl _)
   | (with_reducible exact LeO.none _)
   | (with_reducible refine LeO.ite ?_ ?_)
   | (with_reducible refine LeO.bind ?_ (fun _ => ?_))
   | exact ih0 _ _ _ _ _ _ _
   | exact ih1 _ _ _ _ _ _ _ _ _ _
   | exact ih2 _ _ _ _ _ _ _ _ _ _ _ _
   | exact impl_triangles.mono _ _ _
   | exact slices_Contains_int_int.mono _ _ _
   | exact LeO.none _
   | refine LeO.ite ?_ ?_
   | refine LeO.bind ?_ (fun _ => ?_)
  ·intro y0 y1 y2 y3 y4 y5 y6 y7 y8 y9
   unfold impl_otherOf.l1
   repeat' first
   | (with_reducible exact ih0 _ _ _ _ _ _ _)
   | (with_reducible exact ih1 _ _ _ _ _ _ _ _ _ _)
   | (with_reducible exact ih2 _ _ _ _ _ _ _ _ _ _ _ _)
   | (with_reducible exact impl_triangles.mono _ _ _)
   | (with_reducible exact slices_Contains_int_int.mono _ _ _)
   | (with_reducible exact LeO.refl _)
   | (with_reducible exact LeO.none _)
   | (with_reducible refine LeO.ite ?_ ?_)
   | (with_reducible refine LeO.bind ?_ (fun _ => ?_))
   | exact ih0 _ _ _ _ _ _ _
   | exact ih1 _ _ _ _ _ _ _ _ _ _
   | exact ih2 _ _ _ _ _ _ _ _ _ _ _ _
   | exact impl_triangles.mono _ _ _
   | exact slices_Contains_int_int.mono _ _ _
   | exact LeO.none _
   | refine LeO.ite ?_ ?_
   | refine LeO.bind ?_ (fun _ => ?_)
  ·intro y0 y1 y2 y3 y4 y5 y6 y7 y8 y9 y10 y11
   unfold impl_otherOf.j2
   repeat' first
   | (with_reducible exact ih0 _ _ _ _ _ _ _)
   | (with_reducible exact ih1 _ _ _ _ _ _ _ _ _ _)
   | (with_reducible exact ih2 _ _ _ _ _ _ _ _ _ _ _ _)
   | (with_reducible exact impl_triangles.mono _ _ _)
   | (with_reducible exact slices_Contains_int_int.mono _ _ _)
   | (with_reducible exact LeO.refl _)
   | (with_reducible exact LeO.none _)
   | (with_reducible refine LeO.ite ?_ ?_)
   | (with_reducible refine LeO.bind ?_ (fun _ => ?_))
   | exact ih0 _ _ _ _ _ _ _
   | exact ih1 _ _ _ _ _ _ _ _ _ _
   | exact ih2 _ _ _ _ _ _ _ _ _ _ _ _
   | exact impl_triangles.mono _ _ _
   | exact slices_Contains_int_int.mono _ _ _
   | exact LeO.none _
   | refine LeO.ite ?_ ?_
   | refine LeO.bind ?_ (fun _ => ?_)
theorem impl_otherOf.mono : ∀ a0 a1 a2 a3 k, LeO (impl_otherOf.f k a0 a1 a2 a3) (impl_otherOf.f (k + 1) a0 a1 a2 a3) := by
 intro a0 a1 a2 a3 k
 obtain ⟨ih0, ih1, ih2⟩ := impl_otherOf.mono_l k
 unfold impl_otherOf.f
 repeat' first
   | (with_reducible exact ih0 _ _ _ _ _ _ _)
   | (with_reducible exact ih1 _ _ _ _ _ _ _ _ _ _)
   | (with_reducible exact ih2 _ _ _ _ _ _ _ _ _ _ _ _)
   | (with_reducible exact impl_triangles.mono _ _ _)
   | (with_reducible exact slices_Contains_int_int.mono _ _ _)
   | (with_reducible exact LeO.refl _)
   | (with_reducible exact LeO.none _)
   | (with_reducible refine LeO.ite ?_ ?_)
   | (with_reducible refine LeO.bind ?_ (fun _ => ?_))
   | exact ih0 _ _ _ _ _ _ _
   | exact ih1 _ _ _ _ _ _ _ _ _ _
   | exact ih2 _ _ _ _ _ _ _ _ _ _ _ _
   | exact impl_triangles.mono _ _ _
   | exact slices_Contains_int_int.mono _ _ _
   | exact LeO.none _
   | refine LeO.ite ?_ ?_
   | refine LeO.bind ?_ (fun _ => ?_)
set_option maxHeartbeats 8000000 in
set_option maxRecDepth 100000 in
theorem impl_otherOf.calls (k : Nat) (a0 : Int) (A1 : Option Addr) (c1 : Nat) (l1 : List (S36)) (a2_0 : Int) (a2_1 : Int) (r1 : Int) (r2 : Int) (w : World) (hr1 : Kd.C k36 w A1 l1.length l1) (hc1 : l1.length ≤ c1) (h : impl_otherOf.f k a0 l1 a2_0 a2_1 = some (r1, r2)) :
  Calls Try.prog 69 #[.int .i64 a0, .slice A1 l1.length c1, .agg #[.int .i64 a2_0, .int .i64 a2_1]] w fun e w' => e = .returned (.agg #[.int .i64 r1, .int .i64 r2]) ∧ Below w.heap.size w w' := by
 have hu36 := Try.underlying36
 have HR1 := Aside0.mk hr1
 have HC1 := Aside0.mk hc1
 clear hr1 hc1
 have HB := Aside0.mk (Below.refl w.heap.size w)
 have H : ((impl_triangles.f k a0 l1).bind fun t287 => (impl_otherOf.l0 k (-1) (-1) t287 (t287.length : Int) 0 a2_0 a2_1)) = some (r1, r2) := h
 clear h
 replace H := Option.bind_eq_some_iff.mp H
 obtain ⟨t287, A40, H⟩ := H
 replace H : (impl_otherOf.l0 k (-1) (-1) t287 (t287.length : Int) 0 a2_0 a2_1) = some (r1, r2) := H
 have A4 := Aside0.mk A40
 clear A40
 have H' := Aside0.mk H
 clear H
 go_enter Try.func69, Try.ntmps69
 go_wp2_with (first | ((with_reducible refine gate_dst (N := 5) rfl ?_); refine box_event ?hg (N := 5) ?hd (cs := #[.int .i64 a2_0, .int .i64 a2_1]) (t := 36) ?hr ?_; (case hd => rfl); (case hg => rfl); (case hr => first | (go_simp; done) | (go_simp; rfl)); intro gb285 hg w5 hbox hb; have n0_ := Aside0.mk (below_step blw_ hb); have n1_ := Aside0.mk (hbox); have n2_ := Aside0.mk ((by rw [hg]; exact (below_size blw_) : w.heap.size ≤ gb285)); have n3_ := Aside0.mk ((by rw [hg]; exact (below_size blw_) : w.heap.size ≤ gb285)); clear HB; have HB := n0_; have BK285 := n1_; have GW285 := n2_; have GE285 := n3_; clear n0_ n1_ n2_ n3_; clear hb hbox hg) | ((with_reducible refine gate_dst (N := 6) rfl ?_); refine box_event ?hg (N := 6) ?hd (cs := #[.int .i64 0, .int .i64 0]) (t := 36) ?hr ?_; (case hd => rfl); (case hg => rfl); (case hr => first | (go_simp; done) | (go_simp; rfl)); intro gb286 hg w6 hbox hb; have n0_ := Aside0.mk (blk_below (g := gb285) (o := .cells #[.int .i64 a2_0, .int .i64 a2_1] 36 (0, 0)) (bk_ BK285.out) hb); have n1_ := Aside0.mk (below_step (by repeat (first | (with_reducible first | exact HB.out | apply below_alloc | apply pw_below_drewN | apply below_drew1 | refine below_set ?_ GE285.out) | exact HB.out)) hb); have n2_ := Aside0.mk (hbox); have n3_ := Aside0.mk ((by rw [hg]; exact (below_size (by repeat (first | (with_reducible first | exact HB.out | apply below_alloc | apply pw_below_drewN | apply below_drew1 | refine below_set ?_ GE285.out) | exact HB.out))) : w.heap.size ≤ gb286)); have n4_ := Aside0.mk ((by rw [hg]; exact (below_size (by repeat (first | (with_reducible first | exact HB.out | apply below_alloc | apply pw_below_drewN | apply below_drew1 | refine below_set ?_ GE285.out) | exact HB.out))) : w.heap.size ≤ gb286)); have n5_ := Aside0.mk ((by rw [hg]; exact Nat.ne_of_lt (blk_lt (g := gb285) (o := .cells #[.int .i64 a2_0, .int .i64 a2_1] 36 (0, 0)) (bk_ BK285.out)) : gb285 ≠ gb286)); have n6_ := Aside0.mk ((by rw [hg]; exact Nat.ne_of_gt (blk_lt (g := gb285) (o := .cells #[.int .i64 a2_0, .int .i64 a2_1] 36 (0, 0)) (bk_ BK285.out)) : gb286 ≠ gb285)); clear BK285; clear HB; have BK285 := n0_; have HB := n1_; have BK286 := n2_; have GW286 := n3_; have GE286 := n4_; have NB285_286 := n5_; have NB286_285 := n6_; clear n0_ n1_ n2_ n3_ n4_ n5_ n6_; clear hb hbox hg) | ((with_reducible refine gate_callee (f := 108) rfl ?_); refine goesL_ (some 15) rfl rfl Try.func108 (by kernel_rfl) rfl #[.int .i64 a0, .slice A1 l1.length c1] rfl amp_ ?_; (with_reducible refine (impl_triangles.calls k a0 _ _ l1 t287 _ ?side1 ?side2 A4.out).mono ?_); (case side1 => repeat (first | exact (Kd.C_below HR1.out HB.out) | (with_reducible refine Kd.C_alloc ?_ _) | (with_reducible refine Kd.C_drewN ?_ _) | (with_reducible refine Kd.C_drew ?_))); (case side2 => exact HC1.out); rintro e w7 ⟨v288, rfl, ho0, hb⟩; refine ⟨_, rfl, ?_⟩; have n0_ := Aside0.mk (Kd.S_lower ho0 (below_size (by repeat (first | (with_reducible first | exact HB.out | apply below_alloc | apply pw_below_drewN | apply below_drew1 | refine below_set ?_ GE285.out | refine below_set ?_ GE286.out) | exact HB.out)))); have n1_ := Aside0.mk (blk_below (g := gb285) (o := .cells #[.int .i64 a2_0, .int .i64 a2_1] 36 (0, 0)) (bk_ BK285.out) hb); have n2_ := Aside0.mk (blk_below (g := gb286) (o := .cells #[.int .i64 0, .int .i64 0] 36 (0, 0)) (bk_ BK286.out) hb); have n3_ := Aside0.mk (below_step (by repeat (first | (with_reducible first | exact HB.out | apply below_alloc | apply pw_below_drewN | apply below_drew1 | refine below_set ?_ GE285.out | refine below_set ?_ GE286.out) | exact HB.out)) hb); clear BK285; clear BK286; clear HB; have HO289 := n0_; have BK285 := n1_; have BK286 := n2_; have HB := n3_; clear n0_ n1_ n2_ n3_; (try clear hb); (try clear hb2); (try clear hk); (try clear hi); (try clear ho0); obtain ⟨Ao8, co8, eo8⟩ := Kd.S_slice HO289.out; subst eo8))
 go_loopg [7, 8, 17] k (fun kq v7 v8 v17 w' => ∃ (x7_1 : Int) (x8_1 : Int) (x17_1 : Int), v7 = .int .i64 x7_1 ∧ v8 = .int .i64 x8_1 ∧ v17 = .int .i64 x17_1 ∧ Aside0 (impl_otherOf.l0 kq x7_1 x8_1 t287 (t287.length : Int) x17_1 a2_0 a2_1 = some (r1, r2)) ∧ Aside0 (kq ≤ k) ∧ Aside0 (Kd.S (Kd.slice 3 (Kd.int .i64)) 42 w' w.heap.size (fun _ => True) (.slice Ao8 t287.length co8) t287) ∧ Aside0 (w'.heap[gb285]? = some (.cells #[.int .i64 a2_0, .int .i64 a2_1] 36 (0, 0))) ∧ Aside0 (w'.heap[gb286]? = some (.cells #[.int .i64 0, .int .i64 0] 36 (0, 0))) ∧ Aside0 (Below w.heap.size w w'))
 case atStart => exact ⟨((-1)), ((-1)), (0), (by first | rfl | (simp; done) | (simp [*]; done)), (by first | rfl | (simp; done) | (simp [*]; done)), (by first | rfl | (simp; done) | (simp [*]; done)), H', ⟨Nat.le_refl _⟩, ⟨by (with_reducible repeat (first | apply Kd.S_alloc | apply Kd.S_drewN | apply Kd.S_drew)); exact HO289.out⟩, ⟨bk_ BK285.out⟩, ⟨bk_ BK286.out⟩, ⟨by repeat (first | (with_reducible first | exact HB.out | apply below_alloc | apply pw_below_drewN | apply below_drew1 | refine below_set ?_ GE285.out | refine below_set ?_ GE286.out) | exact HB.out)⟩⟩
 case round =>
  clear H'
  try clear c1
  try clear p2
  try clear c6
  try clear HO_15
  obtain ⟨x7_1, x8_1, x17_1, rfl, rfl, rfl, HA, HK1, HO_15, BK285, BK286, HB⟩ := hrel
  cases gk with
  | zero => exact absurd HA.out (by simp [impl_otherOf.l0])
  | succ k1 =>
   have H := HA.out
   clear HA
   simp only [impl_otherOf.l0] at H
   by_cases c9 : x17_1 < (t287.length : Int)
   ·rw [if_pos c9] at H
    have c9b0 : decide (x17_1 < (t287.length : Int)) = true := decide_eq_true c9
    clear c9
    by_cases c10 : 0 ≤ x17_1
    ·rw [if_pos c10] at H
     have c10b0 : decide (0 ≤ x17_1) = true := decide_eq_true c10
     clear c10
     by_cases c11 : x17_1 < (t287.length : Int)
     ·rw [if_pos c11] at H
      have c11b0 : decide (x17_1 < (t287.length : Int)) = true := decide_eq_true c11
      clear c11
      replace H := Option.bind_eq_some_iff.mp H
      obtain ⟨t291, A120, H⟩ := H
      replace H : (if t291 = true then ((slices_Contains_int_int.f k1 (rd_L4 t287 x17_1) a2_1).bind fun t292 => (if t292 = true then (impl_otherOf.l1 k1 x7_1 x8_1 t287 (t287.length : Int) x17_1 (rd_L4 t287 x17_1) ((rd_L4 t287 x17_1).length : Int) 0 a2_0 a2_1) else (impl_otherOf.l0 k1 x7_1 x8_1 t287 (t287.length : Int) (wrap64 (x17_1 + 1)) a2_0 a2_1))) else (impl_otherOf.l0 k1 x7_1 x8_1 t287 (t287.length : Int) (wrap64 (x17_1 + 1)) a2_0 a2_1)) = some (r1, r2) := H
      have A12 := Aside0.mk A120
      clear A120
      by_cases c13 : t291 = true
      ·subst c13
       have H1 : ((slices_Contains_int_int.f k1 (rd_L4 t287 x17_1) a2_1).bind fun t292 => (if t292 = true then (impl_otherOf.l1 k1 x7_1 x8_1 t287 (t287.length : Int) x17_1 (rd_L4 t287 x17_1) ((rd_L4 t287 x17_1).length : Int) 0 a2_0 a2_1) else (impl_otherOf.l0 k1 x7_1 x8_1 t287 (t287.length : Int) (wrap64 (x17_1 + 1)) a2_0 a2_1))) = some (r1, r2) := by rw [if_pos rfl] at H; exact H
       clear H
       have H := H1
       clear H1
       replace H := Option.bind_eq_some_iff.mp H
       obtain ⟨t292, A140, H⟩ := H
       replace H : (if t292 = true then (impl_otherOf.l1 k1 x7_1 x8_1 t287 (t287.length : Int) x17_1 (rd_L4 t287 x17_1) ((rd_L4 t287 x17_1).length : Int) 0 a2_0 a2_1) else (impl_otherOf.l0 k1 x7_1 x8_1 t287 (t287.length : Int) (wrap64 (x17_1 + 1)) a2_0 a2_1)) = some (r1, r2) := H
       have A14 := Aside0.mk A140
       clear A140
       by_cases c15 : t292 = true
       ·subst c15
        have H1 : (impl_otherOf.l1 k1 x7_1 x8_1 t287 (t287.length : Int) x17_1 (rd_L4 t287 x17_1) ((rd_L4 t287 x17_1).length : Int) 0 a2_0 a2_1) = some (r1, r2) := by rw [if_pos rfl] at H; exact H
        clear H
        have H := H1
        clear H1
        have H' := Aside0.mk H
        clear H
        have p290 : 0 ≤ (x17_1 : Int) := odt_
        have q290 : x17_1 < (t287.length : Int) := odt_
        obtain ⟨ad290, A290_0, c290_0, e290, hx290_0, hl290_0, hi290_0⟩ := at_L4 (Kd.S_reads' HO_15.out).2.2 x17_1 p290 q290
        cases e290
        obtain ⟨ce290, hce290, hMe290, hcc290⟩ := Kd.S_get HO_15.out [] x17_1 p290 (by first | exact q290 | exact odt_ | (have e_ := (Kd.S_reads' HO_15.out).1; omega))
        obtain ⟨ve290_0, rfl, ge290_0⟩ := hMe290
        have hv290_0 := hcc290 0 _ rfl
        rw [Nat.add_zero, show ((Kd.slice 3 (Kd.int .i64))).sz = 1 from rfl, Nat.mul_one] at hv290_0
        replace hv290_0 := Option.some.inj (hv290_0.symm.trans hx290_0)
        rw [hv290_0] at ge290_0
        have HL290_0 := Aside0.mk (show Kd.R (Kd.int .i64) 3 _ _ _ _ (rd_L4 t287 x17_1) from ge290_0)
        clear hv290_0 ge290_0
        clear hcc290 hce290
        have HR290_0 := Aside0.mk hi290_0
        have HC290_0 := Aside0.mk hl290_0
        clear hi290_0 hl290_0
        replace p290 := eq_true p290
        replace q290 := eq_true q290
        have hnb16 := NB285_286.out
        have hnc16 := NB286_285.out
        have hcz17_0 : wr.cell? ⟨gb285, 0, none⟩ = some (.int .i64 a2_0) := (blk_cell BK285.out 0).trans rfl
        have hcz17_1 : wr.cell? ⟨gb285, 1, none⟩ = some (.int .i64 a2_1) := (blk_cell BK285.out 1).trans rfl
        have hfz17_0 := blk_frozen BK285.out 0
        have hfz17_1 := blk_frozen BK285.out 1
        go_wp2_with (first | ((with_reducible refine gate_callee (f := 109) rfl ?_); refine goesL_ (some 24) rfl rfl Try.func109 (by kernel_rfl) rfl #[.slice A290_0 (rd_L4 t287 x17_1).length c290_0, .int .i64 a2_0] rfl amp_ ?_; (with_reducible refine (slices_Contains_int_int.calls k1 _ _ (rd_L4 t287 x17_1) a2_0 true _ ?side1 ?side2 A12.out).mono ?_); (case side1 => repeat (first | exact (by repeat (first | (with_reducible exact HR290_0.out) | (with_reducible refine Kd.C_alloc ?_ _) | (with_reducible refine Kd.C_drewN ?_ _) | (with_reducible refine Kd.C_drew ?_) | exact HR290_0.out)) | (with_reducible refine Kd.C_alloc ?_ _) | (with_reducible refine Kd.C_drewN ?_ _) | (with_reducible refine Kd.C_drew ?_))); (case side2 => exact HC290_0.out); rintro e w' ⟨rfl, ⟨nd, rfl⟩⟩; refine ⟨_, rfl, ?_⟩) | (go_at_call 109; (with_reducible refine (slices_Contains_int_int.calls k1 _ _ (rd_L4 t287 x17_1) a2_1 true _ ?side1 ?side2 A14.out).mono ?_); (case side1 => repeat (first | exact (by repeat (first | (with_reducible exact HR290_0.out) | (with_reducible refine Kd.C_alloc ?_ _) | (with_reducible refine Kd.C_drewN ?_ _) | (with_reducible refine Kd.C_drew ?_) | exact HR290_0.out)) | (with_reducible refine Kd.C_alloc ?_ _) | (with_reducible refine Kd.C_drewN ?_ _) | (with_reducible refine Kd.C_drew ?_))); (case side2 => exact HC290_0.out); rintro e w' ⟨rfl, ⟨nd, rfl⟩⟩))
        go_loopg [7, 8, 35] k1 (fun kq v7 v8 v35 w' => ∃ (x7_2 : Int) (x8_2 : Int) (x35_2 : Int), v7 = .int .i64 x7_2 ∧ v8 = .int .i64 x8_2 ∧ v35 = .int .i64 x35_2 ∧ Aside0 (impl_otherOf.l1 kq x7_2 x8_2 t287 (t287.length : Int) x17_1 (rd_L4 t287 x17_1) ((rd_L4 t287 x17_1).length : Int) x35_2 a2_0 a2_1 = some (r1, r2)) ∧ Aside0 (kq ≤ k1) ∧ Aside0 (Kd.S (Kd.slice 3 (Kd.int .i64)) 42 w' w.heap.size (fun _ => True) (.slice (some ad290) t287.length co8) t287) ∧ Aside0 (w'.heap[gb285]? = some (.cells #[.int .i64 a2_0, .int .i64 a2_1] 36 (0, 0))) ∧ Aside0 (w'.heap[gb286]? = some (.cells #[.int .i64 0, .int .i64 0] 36 (0, 0))) ∧ Aside0 (Kd.C (Kd.int .i64) w' A290_0 (rd_L4 t287 x17_1).length (rd_L4 t287 x17_1)) ∧ Aside0 (Below w.heap.size w w'))
        case atStart => exact ⟨(x7_1), (x8_1), (0), (by first | rfl | (simp; done) | (simp [*]; done)), (by first | rfl | (simp; done) | (simp [*]; done)), (by first | rfl | (simp; done) | (simp [*]; done)), H', ⟨Nat.le_refl _⟩, ⟨by (with_reducible repeat (first | apply Kd.S_alloc | apply Kd.S_drewN | apply Kd.S_drew)); exact HO_15.out⟩, ⟨bk_ BK285.out⟩, ⟨bk_ BK286.out⟩, ⟨by repeat (first | (with_reducible exact HR290_0.out) | (with_reducible refine Kd.C_alloc ?_ _) | (with_reducible refine Kd.C_drewN ?_ _) | (with_reducible refine Kd.C_drew ?_) | exact HR290_0.out)⟩, ⟨by repeat (first | (with_reducible first | exact HB.out | apply below_alloc | apply pw_below_drewN | apply below_drew1 | refine below_set ?_ GE285.out | refine below_set ?_ GE286.out) | exact HB.out)⟩⟩
        case round =>
         clear H'
         try clear c1
         try clear c2
         try clear p2
         try clear q2
         try clear hx2
         try clear c6
         try clear p6
         try clear c9
         try clear c9b0
         try clear c10
         try clear c10b0
         try clear c11
         try clear c11b0
         try clear c13
         try clear c15
         try clear c16
         try clear hcz17_0
         try clear hcz17_1
         try clear hfz17_0
         try clear hfz17_1
         try clear hx290_0
         try clear p2
         try clear p290
         try clear q290
         try clear HO_15
         obtain ⟨x7_2, x8_2, x35_2, rfl, rfl, rfl, HA, HK2, HO_15, BK285, BK286, HR290_0, HB⟩ := hrel
         cases gk with
         | zero => exact absurd HA.out (by simp [impl_otherOf.l1])
         | succ k2 =>
          have H := HA.out
          clear HA
          simp only [impl_otherOf.l1] at H
          by_cases c18 : x35_2 < ((rd_L4 t287 x17_1).length : Int)
          ·rw [if_pos c18] at H
           have c18b0 : decide (x35_2 < ((rd_L4 t287 x17_1).length : Int)) = true := decide_eq_true c18
           clear c18
           by_cases c19 : 0 ≤ x35_2
           ·rw [if_pos c19] at H
            have c19b0 : decide (0 ≤ x35_2) = true := decide_eq_true c19
            clear c19
            by_cases c20 : x35_2 < ((rd_L4 t287 x17_1).length : Int)
            ·rw [if_pos c20] at H
             have c20b0 : decide (x35_2 < ((rd_L4 t287 x17_1).length : Int)) = true := decide_eq_true c20
             clear c20
             have HC21 := Aside0.mk H
             clear H
             have p293 : 0 ≤ (x35_2 : Int) := odt_
             have q293 : x35_2 < ((rd_L4 t287 x17_1).length : Int) := odt_
             obtain ⟨ad293, e293, hx293_0⟩ := Kd.at_int HR290_0.out x35_2 p293 q293
             cases e293
             (first | replace hx293_0 := (HB.out.cell (World.block_lt_of_cell? w _ hx293_0)).trans hx293_0 | skip)
             replace p293 := eq_true p293
             replace q293 := eq_true q293
             go_upto_region 10 with (fail)
             go_cut [40] (fun v40 wc => ∃ (kq : Nat) (x40_20 : Bool), v40 = .bool x40_20 ∧ Aside0 (impl_otherOf.j2 kq x7_2 x8_2 (rd (rd_L4 t287 x17_1) x35_2) t287 (t287.length : Int) x17_1 (rd_L4 t287 x17_1) ((rd_L4 t287 x17_1).length : Int) x35_2 x40_20 a2_0 a2_1 = some (r1, r2)) ∧ Aside0 (kq ≤ k2) ∧ Aside0 (Kd.S (Kd.slice 3 (Kd.int .i64)) 42 wc w.heap.size (fun _ => True) (.slice (some ad290) t287.length co8) t287) ∧ Aside0 (wc.heap[gb285]? = some (.cells #[.int .i64 a2_0, .int .i64 a2_1] 36 (0, 0))) ∧ Aside0 (wc.heap[gb286]? = some (.cells #[.int .i64 0, .int .i64 0] 36 (0, 0))) ∧ Aside0 (Kd.C (Kd.int .i64) wc (some ad293) (rd_L4 t287 x17_1).length (rd_L4 t287 x17_1)) ∧ Aside0 (Below w.heap.size w wc))
             case first =>
              have H := HC21.out
              clear HC21
              by_cases c22 : (rd (rd_L4 t287 x17_1) x35_2) = a2_0
              ·rw [if_pos c22] at H
               have c22b0 : ((rd (rd_L4 t287 x17_1) x35_2) == a2_0) = true := beq_iff_eq.mpr c22
               have c22b1 : ((rd (rd_L4 t287 x17_1) x35_2) != a2_0) = false := bne_eq_false_iff_eq.mpr c22
               clear c22
               (first | rw [c22b0] | (simp only [i64_w, i32_w]; rw [c22b0]) | skip)
               have H' := Aside0.mk H
               clear H
               have hnb23 := NB285_286.out
               have hnc23 := NB286_285.out
               have hcz24_0 : wr.cell? ⟨gb285, 0, none⟩ = some (.int .i64 a2_0) := (blk_cell BK285.out 0).trans rfl
               have hcz24_1 : wr.cell? ⟨gb285, 1, none⟩ = some (.int .i64 a2_1) := (blk_cell BK285.out 1).trans rfl
               have hfz24_0 := blk_frozen BK285.out 0
               have hfz24_1 := blk_frozen BK285.out 1
               go_wp2
               go_meet
               case rel => exact ⟨_, (true), (by first | rfl | (simp; done) | (simp [*]; done)), H', ⟨by have := HK1.out; have := HK2.out; first | omega | exact Nat.le_refl _⟩, ⟨by (with_reducible repeat (first | apply Kd.S_alloc | apply Kd.S_drewN | apply Kd.S_drew)); exact HO_15.out⟩, ⟨bk_ BK285.out⟩, ⟨bk_ BK286.out⟩, ⟨by repeat (first | (with_reducible exact HR290_0.out) | (with_reducible refine Kd.C_alloc ?_ _) | (with_reducible refine Kd.C_drewN ?_ _) | (with_reducible refine Kd.C_drew ?_) | exact HR290_0.out)⟩, ⟨by repeat (first | (with_reducible first | exact HB.out | apply below_alloc | apply pw_below_drewN | apply below_drew1 | refine below_set ?_ GE285.out | refine below_set ?_ GE286.out) | exact HB.out)⟩⟩
              ·rw [if_neg c22] at H
               have c22b0 : ((rd (rd_L4 t287 x17_1) x35_2) == a2_0) = false := beq_eq_false_iff_ne.mpr c22
               have c22b1 : ((rd (rd_L4 t287 x17_1) x35_2) != a2_0) = true := bne_iff_ne.mpr c22
               (first | rw [c22b0] | (simp only [i64_w, i32_w]; rw [c22b0]) | skip)
               have H' := Aside0.mk H
               clear H
               have hnb25 := NB285_286.out
               have hnc25 := NB286_285.out
               have hcz26_0 : wr.cell? ⟨gb285, 0, none⟩ = some (.int .i64 a2_0) := (blk_cell BK285.out 0).trans rfl
               have hcz26_1 : wr.cell? ⟨gb285, 1, none⟩ = some (.int .i64 a2_1) := (blk_cell BK285.out 1).trans rfl
               have hfz26_0 := blk_frozen BK285.out 0
               have hfz26_1 := blk_frozen BK285.out 1
               go_wp2
               go_meet
               case rel => exact ⟨_, (((rd (rd_L4 t287 x17_1) x35_2) == a2_1)), (by first | rfl | (simp; done) | (simp [*]; done)), H', ⟨by have := HK1.out; have := HK2.out; first | omega | exact Nat.le_refl _⟩, ⟨by (with_reducible repeat (first | apply Kd.S_alloc | apply Kd.S_drewN | apply Kd.S_drew)); exact HO_15.out⟩, ⟨bk_ BK285.out⟩, ⟨bk_ BK286.out⟩, ⟨by repeat (first | (with_reducible exact HR290_0.out) | (with_reducible refine Kd.C_alloc ?_ _) | (with_reducible refine Kd.C_drewN ?_ _) | (with_reducible refine Kd.C_drew ?_) | exact HR290_0.out)⟩, ⟨by repeat (first | (with_reducible first | exact HB.out | apply below_alloc | apply pw_below_drewN | apply below_drew1 | refine below_set ?_ GE285.out | refine below_set ?_ GE286.out) | exact HB.out)⟩⟩
             case rest =>
              clear HC21
              try clear c1
              try clear c2
              try clear p2
              try clear q2
              try clear hx2
              try clear c6
              try clear p6
              try clear c9
              try clear c9b0
              try clear c10
              try clear c10b0
              try clear c11
              try clear c11b0
              try clear c13
              try clear c15
              try clear c16
              try clear c18
              try clear c18b0
              try clear c19
              try clear c19b0
              try clear c20
              try clear c20b0
              try clear c22
              try clear c22b0
              try clear c22b1
              try clear c23
              try clear c25
              try clear hcz17_0
              try clear hcz17_1
              try clear hcz24_0
              try clear hcz24_1
              try clear hcz26_0
              try clear hcz26_1
              try clear hfz17_0
              try clear hfz17_1
              try clear hfz24_0
              try clear hfz24_1
              try clear hfz26_0
              try clear hfz26_1
              try clear hx290_0
              try clear hx293_0
              try clear p2
              try clear p290
              try clear p293
              try clear p6
              try clear q2
              try clear q290
              try clear q293
              obtain ⟨kq, x40_20, rfl, HA, HJ20, HO_15, BK285, BK286, HR290_0, HB⟩ := hcut
              cases kq with
              | zero => exact absurd HA.out (by simp [impl_otherOf.j2])
              | succ kj20 =>
               have H := HA.out
               clear HA
               simp only [impl_otherOf.j2] at H
               by_cases c27 : x40_20 = true
               ·subst c27
                have H1 : (impl_otherOf.l1 kj20 x7_2 x8_2 t287 (t287.length : Int) x17_1 (rd_L4 t287 x17_1) ((rd_L4 t287 x17_1).length : Int) (wrap64 (x35_2 + 1)) a2_0 a2_1) = some (r1, r2) := by rw [if_pos rfl] at H; exact H
                clear H
                have H := H1
                clear H1
                have H' := Aside0.mk H
                clear H
                go_wp2
                go_roundg kj20
                case measure => have := HK1.out; have := HK2.out; have := HJ20.out; omega
                case rel => exact ⟨(x7_2), (x8_2), (wrap64 (x35_2 + 1)), (by first | rfl | (simp; done) | (simp [*]; done)), (by first | rfl | (simp; done) | (simp [*]; done)), (by first | rfl | (simp; done) | (simp [*]; done)), H', ⟨by have := HK1.out; have := HK2.out; have := HJ20.out; omega⟩, ⟨by (with_reducible repeat (first | apply Kd.S_alloc | apply Kd.S_drewN | apply Kd.S_drew)); exact HO_15.out⟩, ⟨bk_ BK285.out⟩, ⟨bk_ BK286.out⟩, ⟨by repeat (first | (with_reducible exact HR290_0.out) | (with_reducible refine Kd.C_alloc ?_ _) | (with_reducible refine Kd.C_drewN ?_ _) | (with_reducible refine Kd.C_drew ?_) | exact HR290_0.out)⟩, ⟨by repeat (first | (with_reducible first | exact HB.out | apply below_alloc | apply pw_below_drewN | apply below_drew1 | refine below_set ?_ GE285.out | refine below_set ?_ GE286.out) | exact HB.out)⟩⟩
               ·replace c27 := Bool.eq_false_iff.mpr c27
                subst c27
                have H1 : ((impl_within.f (rd (rd_L4 t287 x17_1) x35_2) a2_0 a2_1).bind fun t294 => (if t294 = true then (impl_otherOf.l1 kj20 (rd (rd_L4 t287 x17_1) x35_2) x8_2 t287 (t287.length : Int) x17_1 (rd_L4 t287 x17_1) ((rd_L4 t287 x17_1).length : Int) (wrap64 (x35_2 + 1)) a2_0 a2_1) else (impl_otherOf.l1 kj20 x7_2 (rd (rd_L4 t287 x17_1) x35_2) t287 (t287.length : Int) x17_1 (rd_L4 t287 x17_1) ((rd_L4 t287 x17_1).length : Int) (wrap64 (x35_2 + 1)) a2_0 a2_1))) = some (r1, r2) := by rw [if_neg (show ¬ (false = true) by decide)] at H; exact H
                clear H
                have H := H1
                clear H1
                replace H := Option.bind_eq_some_iff.mp H
                obtain ⟨t294, A280, H⟩ := H
                replace H : (if t294 = true then (impl_otherOf.l1 kj20 (rd (rd_L4 t287 x17_1) x35_2) x8_2 t287 (t287.length : Int) x17_1 (rd_L4 t287 x17_1) ((rd_L4 t287 x17_1).length : Int) (wrap64 (x35_2 + 1)) a2_0 a2_1) else (impl_otherOf.l1 kj20 x7_2 (rd (rd_L4 t287 x17_1) x35_2) t287 (t287.length : Int) x17_1 (rd_L4 t287 x17_1) ((rd_L4 t287 x17_1).length : Int) (wrap64 (x35_2 + 1)) a2_0 a2_1)) = some (r1, r2) := H
                have A28 := Aside0.mk A280
                clear A280
                by_cases c29 : t294 = true
                ·subst c29
                 have H1 : (impl_otherOf.l1 kj20 (rd (rd_L4 t287 x17_1) x35_2) x8_2 t287 (t287.length : Int) x17_1 (rd_L4 t287 x17_1) ((rd_L4 t287 x17_1).length : Int) (wrap64 (x35_2 + 1)) a2_0 a2_1) = some (r1, r2) := by rw [if_pos rfl] at H; exact H
                 clear H
                 have H := H1
                 clear H1
                 have H' := Aside0.mk H
                 clear H
                 have hnb30 := NB285_286.out
                 have hnc30 := NB286_285.out
                 have hcz31_0 : wc.cell? ⟨gb285, 0, none⟩ = some (.int .i64 a2_0) := (blk_cell BK285.out 0).trans rfl
                 have hcz31_1 : wc.cell? ⟨gb285, 1, none⟩ = some (.int .i64 a2_1) := (blk_cell BK285.out 1).trans rfl
                 have hfz31_0 := blk_frozen BK285.out 0
                 have hfz31_1 := blk_frozen BK285.out 1
                 go_wp2_with (first | ((with_reducible refine gate_callee (f := 57) rfl ?_); refine goesL_ (some 57) rfl rfl Try.func57 (by kernel_rfl) rfl #[.int .i64 (rd (rd_L4 t287 x17_1) x35_2), .int .i64 a2_0, .int .i64 a2_1] rfl amp_ ?_; (with_reducible refine (impl_within.calls (rd (rd_L4 t287 x17_1) x35_2) a2_0 a2_1 true _ A28.out).mono ?_); rintro e w' ⟨rfl, ⟨nd, rfl⟩⟩; refine ⟨_, rfl, ?_⟩))
                 go_roundg kj20
                 case measure => have := HK1.out; have := HK2.out; have := HJ20.out; omega
                 case rel => exact ⟨((rd (rd_L4 t287 x17_1) x35_2)), (x8_2), (wrap64 (x35_2 + 1)), (by first | rfl | (simp; done) | (simp [*]; done)), (by first | rfl | (simp; done) | (simp [*]; done)), (by first | rfl | (simp; done) | (simp [*]; done)), H', ⟨by have := HK1.out; have := HK2.out; have := HJ20.out; omega⟩, ⟨by (with_reducible repeat (first | apply Kd.S_alloc | apply Kd.S_drewN | apply Kd.S_drew)); exact HO_15.out⟩, ⟨bk_ BK285.out⟩, ⟨bk_ BK286.out⟩, ⟨by repeat (first | (with_reducible exact HR290_0.out) | (with_reducible refine Kd.C_alloc ?_ _) | (with_reducible refine Kd.C_drewN ?_ _) | (with_reducible refine Kd.C_drew ?_) | exact HR290_0.out)⟩, ⟨by repeat (first | (with_reducible first | exact HB.out | apply below_alloc | apply pw_below_drewN | apply below_drew1 | refine below_set ?_ GE285.out | refine below_set ?_ GE286.out) | exact HB.out)⟩⟩
                ·replace c29 := Bool.eq_false_iff.mpr c29
                 subst c29
                 have H1 : (impl_otherOf.l1 kj20 x7_2 (rd (rd_L4 t287 x17_1) x35_2) t287 (t287.length : Int) x17_1 (rd_L4 t287 x17_1) ((rd_L4 t287 x17_1).length : Int) (wrap64 (x35_2 + 1)) a2_0 a2_1) = some (r1, r2) := by rw [if_neg (show ¬ (false = true) by decide)] at H; exact H
                 clear H
                 have H := H1
                 clear H1
                 have H' := Aside0.mk H
                 clear H
                 have hnb32 := NB285_286.out
                 have hnc32 := NB286_285.out
                 have hcz33_0 : wc.cell? ⟨gb285, 0, none⟩ = some (.int .i64 a2_0) := (blk_cell BK285.out 0).trans rfl
                 have hcz33_1 : wc.cell? ⟨gb285, 1, none⟩ = some (.int .i64 a2_1) := (blk_cell BK285.out 1).trans rfl
                 have hfz33_0 := blk_frozen BK285.out 0
                 have hfz33_1 := blk_frozen BK285.out 1
                 go_wp2_with (first | ((with_reducible refine gate_callee (f := 57) rfl ?_); refine goesL_ (some 57) rfl rfl Try.func57 (by kernel_rfl) rfl #[.int .i64 (rd (rd_L4 t287 x17_1) x35_2), .int .i64 a2_0, .int .i64 a2_1] rfl amp_ ?_; (with_reducible refine (impl_within.calls (rd (rd_L4 t287 x17_1) x35_2) a2_0 a2_1 false _ A28.out).mono ?_); rintro e w' ⟨rfl, ⟨nd, rfl⟩⟩; refine ⟨_, rfl, ?_⟩))
                 go_roundg kj20
                 case measure => have := HK1.out; have := HK2.out; have := HJ20.out; omega
                 case rel => exact ⟨(x7_2), ((rd (rd_L4 t287 x17_1) x35_2)), (wrap64 (x35_2 + 1)), (by first | rfl | (simp; done) | (simp [*]; done)), (by first | rfl | (simp; done) | (simp [*]; done)), (by first | rfl | (simp; done) | (simp [*]; done)), H', ⟨by have := HK1.out; have := HK2.out; have := HJ20.out; omega⟩, ⟨by (with_reducible repeat (first | apply Kd.S_alloc | apply Kd.S_drewN | apply Kd.S_drew)); exact HO_15.out⟩, ⟨bk_ BK285.out⟩, ⟨bk_ BK286.out⟩, ⟨by repeat (first | (with_reducible exact HR290_0.out) | (with_reducible refine Kd.C_alloc ?_ _) | (with_reducible refine Kd.C_drewN ?_ _) | (with_reducible refine Kd.C_drew ?_) | exact HR290_0.out)⟩, ⟨by repeat (first | (with_reducible first | exact HB.out | apply below_alloc | apply pw_below_drewN | apply below_drew1 | refine below_set ?_ GE285.out | refine below_set ?_ GE286.out) | exact HB.out)⟩⟩
            ·rw [if_neg c20] at H
             exact absurd H (by simp)
           ·rw [if_neg c19] at H
            exact absurd H (by simp)
          ·rw [if_neg c18] at H
           have c18b0 : decide (x35_2 < ((rd_L4 t287 x17_1).length : Int)) = false := decide_eq_false c18
           clear c18
           have H' := Aside0.mk H
           clear H
           go_wp2
           go_roundg k2
           case measure => have := HK1.out; have := HK2.out; omega
           case rel => exact ⟨(x7_2), (x8_2), (wrap64 (x17_1 + 1)), (by first | rfl | (simp; done) | (simp [*]; done)), (by first | rfl | (simp; done) | (simp [*]; done)), (by first | rfl | (simp; done) | (simp [*]; done)), H', ⟨by have := HK1.out; have := HK2.out; omega⟩, ⟨by (with_reducible repeat (first | apply Kd.S_alloc | apply Kd.S_drewN | apply Kd.S_drew)); exact HO_15.out⟩, ⟨bk_ BK285.out⟩, ⟨bk_ BK286.out⟩, ⟨by repeat (first | (with_reducible first | exact HB.out | apply below_alloc | apply pw_below_drewN | apply below_drew1 | refine below_set ?_ GE285.out | refine below_set ?_ GE286.out) | exact HB.out)⟩⟩
       ·replace c15 := Bool.eq_false_iff.mpr c15
        subst c15
        have H1 : (impl_otherOf.l0 k1 x7_1 x8_1 t287 (t287.length : Int) (wrap64 (x17_1 + 1)) a2_0 a2_1) = some (r1, r2) := by rw [if_neg (show ¬ (false = true) by decide)] at H; exact H
        clear H
        have H := H1
        clear H1
        have H' := Aside0.mk H
        clear H
        have p290 : 0 ≤ (x17_1 : Int) := odt_
        have q290 : x17_1 < (t287.length : Int) := odt_
        obtain ⟨ad290, A290_0, c290_0, e290, hx290_0, hl290_0, hi290_0⟩ := at_L4 (Kd.S_reads' HO_15.out).2.2 x17_1 p290 q290
        cases e290
        obtain ⟨ce290, hce290, hMe290, hcc290⟩ := Kd.S_get HO_15.out [] x17_1 p290 (by first | exact q290 | exact odt_ | (have e_ := (Kd.S_reads' HO_15.out).1; omega))
        obtain ⟨ve290_0, rfl, ge290_0⟩ := hMe290
        have hv290_0 := hcc290 0 _ rfl
        rw [Nat.add_zero, show ((Kd.slice 3 (Kd.int .i64))).sz = 1 from rfl, Nat.mul_one] at hv290_0
        replace hv290_0 := Option.some.inj (hv290_0.symm.trans hx290_0)
        rw [hv290_0] at ge290_0
        have HL290_0 := Aside0.mk (show Kd.R (Kd.int .i64) 3 _ _ _ _ (rd_L4 t287 x17_1) from ge290_0)
        clear hv290_0 ge290_0
        clear hcc290 hce290
        have HR290_0 := Aside0.mk hi290_0
        have HC290_0 := Aside0.mk hl290_0
        clear hi290_0 hl290_0
        replace p290 := eq_true p290
        replace q290 := eq_true q290
        have hnb34 := NB285_286.out
        have hnc34 := NB286_285.out
        have hcz35_0 : wr.cell? ⟨gb285, 0, none⟩ = some (.int .i64 a2_0) := (blk_cell BK285.out 0).trans rfl
        have hcz35_1 : wr.cell? ⟨gb285, 1, none⟩ = some (.int .i64 a2_1) := (blk_cell BK285.out 1).trans rfl
        have hfz35_0 := blk_frozen BK285.out 0
        have hfz35_1 := blk_frozen BK285.out 1
        go_wp2_with (first | ((with_reducible refine gate_callee (f := 109) rfl ?_); refine goesL_ (some 24) rfl rfl Try.func109 (by kernel_rfl) rfl #[.slice A290_0 (rd_L4 t287 x17_1).length c290_0, .int .i64 a2_0] rfl amp_ ?_; (with_reducible refine (slices_Contains_int_int.calls k1 _ _ (rd_L4 t287 x17_1) a2_0 true _ ?side1 ?side2 A12.out).mono ?_); (case side1 => repeat (first | exact (by repeat (first | (with_reducible exact HR290_0.out) | (with_reducible refine Kd.C_alloc ?_ _) | (with_reducible refine Kd.C_drewN ?_ _) | (with_reducible refine Kd.C_drew ?_) | exact HR290_0.out)) | (with_reducible refine Kd.C_alloc ?_ _) | (with_reducible refine Kd.C_drewN ?_ _) | (with_reducible refine Kd.C_drew ?_))); (case side2 => exact HC290_0.out); rintro e w' ⟨rfl, ⟨nd, rfl⟩⟩; refine ⟨_, rfl, ?_⟩) | (go_at_call 109; (with_reducible refine (slices_Contains_int_int.calls k1 _ _ (rd_L4 t287 x17_1) a2_1 false _ ?side1 ?side2 A14.out).mono ?_); (case side1 => repeat (first | exact (by repeat (first | (with_reducible exact HR290_0.out) | (with_reducible refine Kd.C_alloc ?_ _) | (with_reducible refine Kd.C_drewN ?_ _) | (with_reducible refine Kd.C_drew ?_) | exact HR290_0.out)) | (with_reducible refine Kd.C_alloc ?_ _) | (with_reducible refine Kd.C_drewN ?_ _) | (with_reducible refine Kd.C_drew ?_))); (case side2 => exact HC290_0.out); rintro e w' ⟨rfl, ⟨nd, rfl⟩⟩))
        go_roundg k1
        case measure => have := HK1.out; omega
        case rel => exact ⟨(x7_1), (x8_1), (wrap64 (x17_1 + 1)), (by first | rfl | (simp; done) | (simp [*]; done)), (by first | rfl | (simp; done) | (simp [*]; done)), (by first | rfl | (simp; done) | (simp [*]; done)), H', ⟨by have := HK1.out; omega⟩, ⟨by (with_reducible repeat (first | apply Kd.S_alloc | apply Kd.S_drewN | apply Kd.S_drew)); exact HO_15.out⟩, ⟨bk_ BK285.out⟩, ⟨bk_ BK286.out⟩, ⟨by repeat (first | (with_reducible first | exact HB.out | apply below_alloc | apply pw_below_drewN | apply below_drew1 | refine below_set ?_ GE285.out | refine below_set ?_ GE286.out) | exact HB.out)⟩⟩
      ·replace c13 := Bool.eq_false_iff.mpr c13
       subst c13
       have H1 : (impl_otherOf.l0 k1 x7_1 x8_1 t287 (t287.length : Int) (wrap64 (x17_1 + 1)) a2_0 a2_1) = some (r1, r2) := by rw [if_neg (show ¬ (false = true) by decide)] at H; exact H
       clear H
       have H := H1
       clear H1
       have H' := Aside0.mk H
       clear H
       have p290 : 0 ≤ (x17_1 : Int) := odt_
       have q290 : x17_1 < (t287.length : Int) := odt_
       obtain ⟨ad290, A290_0, c290_0, e290, hx290_0, hl290_0, hi290_0⟩ := at_L4 (Kd.S_reads' HO_15.out).2.2 x17_1 p290 q290
       cases e290
       obtain ⟨ce290, hce290, hMe290, hcc290⟩ := Kd.S_get HO_15.out [] x17_1 p290 (by first | exact q290 | exact odt_ | (have e_ := (Kd.S_reads' HO_15.out).1; omega))
       obtain ⟨ve290_0, rfl, ge290_0⟩ := hMe290
       have hv290_0 := hcc290 0 _ rfl
       rw [Nat.add_zero, show ((Kd.slice 3 (Kd.int .i64))).sz = 1 from rfl, Nat.mul_one] at hv290_0
       replace hv290_0 := Option.some.inj (hv290_0.symm.trans hx290_0)
       rw [hv290_0] at ge290_0
       have HL290_0 := Aside0.mk (show Kd.R (Kd.int .i64) 3 _ _ _ _ (rd_L4 t287 x17_1) from ge290_0)
       clear hv290_0 ge290_0
       clear hcc290 hce290
       have HR290_0 := Aside0.mk hi290_0
       have HC290_0 := Aside0.mk hl290_0
       clear hi290_0 hl290_0
       replace p290 := eq_true p290
       replace q290 := eq_true q290
       have hnb36 := NB285_286.out
       have hnc36 := NB286_285.out
       have hcz37_0 : wr.cell? ⟨gb285, 0, none⟩ = some (.int .i64 a2_0) := (blk_cell BK285.out 0).trans rfl
       have hcz37_1 : wr.cell? ⟨gb285, 1, none⟩ = some (.int .i64 a2_1) := (blk_cell BK285.out 1).trans rfl
       have hfz37_0 := blk_frozen BK285.out 0
       have hfz37_1 := blk_frozen BK285.out 1
       go_wp2_with (first | ((with_reducible refine gate_callee (f := 109) rfl ?_); refine goesL_ (some 24) rfl rfl Try.func109 (by kernel_rfl) rfl #[.slice A290_0 (rd_L4 t287 x17_1).length c290_0, .int .i64 a2_0] rfl amp_ ?_; (with_reducible refine (slices_Contains_int_int.calls k1 _ _ (rd_L4 t287 x17_1) a2_0 false _ ?side1 ?side2 A12.out).mono ?_); (case side1 => repeat (first | exact (by repeat (first | (with_reducible exact HR290_0.out) | (with_reducible refine Kd.C_alloc ?_ _) | (with_reducible refine Kd.C_drewN ?_ _) | (with_reducible refine Kd.C_drew ?_) | exact HR290_0.out)) | (with_reducible refine Kd.C_alloc ?_ _) | (with_reducible refine Kd.C_drewN ?_ _) | (with_reducible refine Kd.C_drew ?_))); (case side2 => exact HC290_0.out); rintro e w' ⟨rfl, ⟨nd, rfl⟩⟩; refine ⟨_, rfl, ?_⟩))
       go_roundg k1
       case measure => have := HK1.out; omega
       case rel => exact ⟨(x7_1), (x8_1), (wrap64 (x17_1 + 1)), (by first | rfl | (simp; done) | (simp [*]; done)), (by first | rfl | (simp; done) | (simp [*]; done)), (by first | rfl | (simp; done) | (simp [*]; done)), H', ⟨by have := HK1.out; omega⟩, ⟨by (with_reducible repeat (first | apply Kd.S_alloc | apply Kd.S_drewN | apply Kd.S_drew)); exact HO_15.out⟩, ⟨bk_ BK285.out⟩, ⟨bk_ BK286.out⟩, ⟨by repeat (first | (with_reducible first | exact HB.out | apply below_alloc | apply pw_below_drewN | apply below_drew1 | refine below_set ?_ GE285.out | refine below_set ?_ GE286.out) | exact HB.out)⟩⟩
     ·rw [if_neg c11] at H
      exact absurd H (by simp)
    ·rw [if_neg c10] at H
     exact absurd H (by simp)
   ·rw [if_neg c9] at H
    have c9b0 : decide (x17_1 < (t287.length : Int)) = false := decide_eq_false c9
    clear c9
    obtain ⟨ji38, hji38⟩ : ∃ j_ : Int, (mn x7_1 x8_1) = j_ := ⟨_, rfl⟩
    replace H : (some (ji38, mx x7_1 x8_1)) = some (r1, r2) := by first | (rw [hji38] at H; exact H) | (simp only [hji38] at H ⊢; exact H)
    have hji38_ : (if x8_1 < x7_1 then x8_1 else x7_1) = ji38 := hji38
    obtain ⟨ji39, hji39⟩ : ∃ j_ : Int, (mx x7_1 x8_1) = j_ := ⟨_, rfl⟩
    replace H : (some (ji38, ji39)) = some (r1, r2) := by first | (rw [hji39] at H; exact H) | (simp only [hji39] at H ⊢; exact H)
    have hji39_ : (if x7_1 < x8_1 then x8_1 else x7_1) = ji39 := hji39
    simp only [Option.some.injEq, Prod.mk.injEq] at H
    obtain ⟨rfl, rfl⟩ := H
    have hnb40 := NB286_285.out
    have hnc40 := NB285_286.out
    have hcz41_0 : wr.cell? ⟨gb286, 0, none⟩ = some (.int .i64 0) := (blk_cell BK286.out 0).trans rfl
    have hcz41_1 : wr.cell? ⟨gb286, 1, none⟩ = some (.int .i64 0) := (blk_cell BK286.out 1).trans rfl
    have hfz41_0 := blk_frozen BK286.out 0
    have hfz41_1 := blk_frozen BK286.out 1
    go_wp2
    refine bodyPost_ret (results_cell_row rfl _ _ gb286 36 #[.int .i64 ji38, .int .i64 ji39] (0, 0) _ rfl (by (with_reducible repeat (first | refine blk_drewN ?_ _ | refine blk_drew ?_ | refine blk_alloc ?_ _)); refine blk_put (cs := #[.int .i64 ji38, .int .i64 0]) ?_ 1 _ rfl; (with_reducible repeat (first | refine blk_drewN ?_ _ | refine blk_drew ?_ | refine blk_alloc ?_ _)); refine blk_put (cs := #[.int .i64 0, .int .i64 0]) ?_ 0 _ rfl; (with_reducible repeat (first | refine blk_drewN ?_ _ | refine blk_drew ?_ | refine blk_alloc ?_ _)); exact BK286.out) Try.underlying36 rfl (by kernel_rfl)) rfl ?_
    exact ⟨by first | rfl | (simp [errW_none, errW_some] <;> rfl) | (simp only [← hji38, ← hji39]; first | rfl | (simp [errW_none, errW_some] <;> rfl)) | (simp [*, errW_none, errW_some] <;> rfl), by repeat (first | (with_reducible first | exact HB.out | apply below_alloc | apply pw_below_drewN | apply below_drew1 | refine below_set ?_ GE285.out | refine below_set ?_ GE286.out) | exact HB.out)⟩

/-! ### impl_Diagonal_87: function 87 -/
def impl_Diagonal_87.f (l0 : List S36) : Option (List S36) := if l0.length < 8796093022208 then some l0 else none
set_option maxHeartbeats 4000000 in
set_option maxRecDepth 100000 in
theorem impl_Diagonal_87.calls (A0 : Option Addr) (c0 : Nat) (l0 : List S36) (r : List S36) (w : World) (hr0 : Kd.C k36 w A0 l0.length l0) (hc0 : l0.length ≤ c0) (h : impl_Diagonal_87.f l0 = some r) :
  Calls Try.prog 87 #[.slice A0 l0.length c0] w fun e w' => ∃ v0_ : Value, e = .returned (v0_) ∧ Kd.R k36 36 w' w.heap.size (fun _ => True) v0_ r ∧ Below w.heap.size w w' := by
 have H : (if l0.length < 8796093022208 then some l0 else none) = some r := h
 clear h
 by_cases c2 : l0.length < 8796093022208
 ·rw [if_pos c2] at H
  obtain rfl := Option.some.inj H
  clear H
  rcases A0 with _ | ad
  ·have hl : l0 = [] := by
    rcases Nat.eq_zero_or_pos l0.length with h0 | h0
    ·exact List.eq_nil_of_length_eq_zero h0
    ·obtain ⟨ad, e, _⟩ := hr0.2.2 h0
     cases e
   subst hl
   have hcmp := fun w => Lib.run_eql_slice_nil (P := Try.prog) w 22 36 none 0 c0 0 0 Try.underlying22
   show Calls Try.prog 87 #[.slice none 0 c0] w _
   clear hr0 hc0
   go_enter Try.func87, Try.ntmps87
   go_wp2
   go_ret
   exact ⟨.slice none 0 0, rfl, Kd.R_nil _ _ _ _ _, Below.refl _ _⟩
  ·have HR0 := Aside0.mk hr0
   have LM := Aside0.mk c2
   have hcmp := fun w => Lib.run_eql_slice_nil (P := Try.prog) w 22 36 (some ad) l0.length c0 0 0 Try.underlying22
   have HB := Aside0.mk (Below.refl w.heap.size w)
   clear hr0 hc0 c2
   go_enter Try.func87, Try.ntmps87
   go_wp2_with (first | ((with_reducible refine gate_dst (N := 5) rfl ?_); refine Kd.R_lit k36 _ 36 ?hg (N := 5) ?hd (xs := ([] : List S36)) (inner := []) (ok := fun _ => True) (okp := fun _ => True) ?hr ?hp (fun _ hk => hk) trivial (Below.refl _ _) (Nat.le_refl _) (by simp) ?_; (case hd => rfl); (case hg => rfl); (case hr => first | (go_simp; done) | (go_simp; rfl)); (case hp => exact (Reps.none _ _)); intro v117 w3 ho4 hb hg_ hnew_; clear hg_ hnew_; have n0_ := Aside0.mk (Kd.R_lower ho4 (below_size blw_)); have n1_ := Aside0.mk (below_step blw_ hb); clear HB; have HO118 := n0_; have HB := n1_; clear n0_ n1_; clear hb ho4) | ((with_reducible refine gate_builtin (b := .append) (xs := #[.tmp 5, .tmp 6]) rfl ?_); at_builtin; refine Kd.R_append_rows k36 (w0 := w) w.heap.size rfl (.tmp 5) (.tmp 6) 22 36 (.agg #[(.int .i64 0), (.int .i64 0)]) 16 rfl Try.underlying22 info36 rfl (by decide) (by omega) v117 [] l0 _ _ _ (fun _ => True) (fun _ => False) rfl rfl ?aO ?aR (fun _ _ h => h) (fun _ h => h.elim) ?aF ?aB ?aS ?aL ?_; (case aR => repeat (first | exact (Kd.C_below HR0.out HB.out) | (with_reducible refine Kd.C_alloc ?_ _) | (with_reducible refine Kd.C_drewN ?_ _) | (with_reducible refine Kd.C_drew ?_))); (case aB => exact blw_); (case aF => exact (fun _ _ => trivial)); (case aO => exact (ra_ HO118.out)); (case aS => exact (below_size blw_)); (case aL => have := LM.out; simp only [List.length_nil]; omega); intro v120 w5 ho hb hg hat; rw [List.nil_append] at ho; have n0_ := Aside0.mk (hb); have n1_ := Aside0.mk (ho); clear HB; clear HO118; have HB := n0_; have HO121 := n1_; clear n0_ n1_; clear ho hb hg hat))
   go_ret
   exact ⟨_, rfl, by (with_reducible repeat (first | apply Kd.R_alloc | apply Kd.R_drewN | apply Kd.R_drew)); exact HO121.out, by repeat (first | (with_reducible first | exact HB.out | apply below_alloc | apply pw_below_drewN | apply below_drew1) | exact HB.out)⟩
 ·rw [if_neg c2] at H
  cases H


end Go.Proofs.Ytkipgbakoljaeaa.PFnExactAllFlips
