-- WRITTEN BY A PROGRAM OF THIS WORK (wip/tools/ppatch.py) for this claim.
import Derived.Test.YtgblginphicacaaDoorPFnExactWidestDistancex0
import Derived.Test.YtgblginphicacaaDoorPFnExactWidestDistancex8
import Derived.Test.YtgblginphicacaaDoorPFnExactWidestDistancex11
namespace Go.Proofs.YtgblginphicacaaDoor.PFnExactWidestDistance
open Go.RowKit Go.Proofs.YtgblginphicacaaDoorW.PrintWords Go.Proofs.YtgblginphicacaaDoorW.PrintLast Go.Proofs.YtgblginphicacaaDoorW.PrintMore
attribute [local go_sem] max2_int min2_int max_two min_two max_three min_three max_four min_four   -- for this text's walks alone
set_option linter.unusedVariables false
set_option linter.unusedSimpArgs false

/-! ### impl_otherOf: function 54 -/
mutual
def impl_otherOf.l0 : Nat → Int → Int → List (List Int) → Int → Int → Int → Int → Option (Int × Int)
 | 0, _, _, _, _, _, _, _ => none
 | k + 1, x7, x8, x15, x16, x17, x276000, x276001 => if x17 < x16 then (if 0 ≤ x17 then (if x17 < (x15.length : Int) then ((slices_Contains_int_int.f k (rd_L6 x15 x17) x276000).bind fun t281 => (if t281 = true then ((slices_Contains_int_int.f k (rd_L6 x15 x17) x276001).bind fun t282 => (if t282 = true then (impl_otherOf.l1 k x7 x8 x15 x16 x17 (rd_L6 x15 x17) ((rd_L6 x15 x17).length : Int) 0 x276000 x276001) else (impl_otherOf.l0 k x7 x8 x15 x16 (wrap64 (x17 + 1)) x276000 x276001))) else (impl_otherOf.l0 k x7 x8 x15 x16 (wrap64 (x17 + 1)) x276000 x276001))) else (none)) else (none)) else (some (mn x7 x8, mx x7 x8))
def impl_otherOf.l1 : Nat → Int → Int → List (List Int) → Int → Int → List Int → Int → Int → Int → Int → Option (Int × Int)
 | 0, _, _, _, _, _, _, _, _, _, _ => none
 | k + 1, x7, x8, x15, x16, x17, x33, x34, x35, x276000, x276001 => if x35 < x34 then (if 0 ≤ x35 then (if x35 < (x33.length : Int) then (if (rd x33 x35) = x276000 then (impl_otherOf.j2 k x7 x8 (rd x33 x35) x15 x16 x17 x33 x34 x35 true x276000 x276001) else (impl_otherOf.j2 k x7 x8 (rd x33 x35) x15 x16 x17 x33 x34 x35 ((rd x33 x35) == x276001) x276000 x276001)) else (none)) else (none)) else (impl_otherOf.l0 k x7 x8 x15 x16 (wrap64 (x17 + 1)) x276000 x276001)
def impl_otherOf.j2 : Nat → Int → Int → Int → List (List Int) → Int → Int → List Int → Int → Int → Bool → Int → Int → Option (Int × Int)
 | 0, _, _, _, _, _, _, _, _, _, _, _, _ => none
 | k + 1, x7, x8, x12, x15, x16, x17, x33, x34, x35, x40, x276000, x276001 => if x40 = true then (impl_otherOf.l1 k x7 x8 x15 x16 x17 x33 x34 (wrap64 (x35 + 1)) x276000 x276001) else ((impl_within.f x12 x276000 x276001).bind fun t284 => (if t284 = true then (impl_otherOf.l1 k x12 x8 x15 x16 x17 x33 x34 (wrap64 (x35 + 1)) x276000 x276001) else (impl_otherOf.l1 k x7 x12 x15 x16 x17 x33 x34 (wrap64 (x35 + 1)) x276000 x276001)))
end
def impl_otherOf.f (k : Nat) (a0 : Int) (l1 : List (S49)) (a2_0 : Int) (a2_1 : Int) : Option (Int × Int) := (impl_triangles.f k a0 l1).bind fun t277 => (impl_otherOf.l0 k (-1) (-1) t277 (t277.length : Int) 0 a2_0 a2_1)
theorem impl_otherOf.mono_l : ∀ k, (∀ y0 y1 y2 y3 y4 y5 y6, LeO (impl_otherOf.l0 k y0 y1 y2 y3 y4 y5 y6) (impl_otherOf.l0 (k + 1) y0 y1 y2 y3 y4 y5 y6)) ∧ (∀ y0 y1 y2 y3 y4 y5 y6 y7 y8 y9, LeO (impl_otherOf.l1 k y0 y1 y2 y3 y4 y5 y6 y7 y8 y9) (impl_otherOf.l1 (k + 1) y0 y1 y2 y3 y4 y5 y6 y7 y8 y9)) ∧ (∀ y0 y1 y2 y3 y4 y5 y6 y7 y8 y9 y10 y11, LeO (impl_otherOf.j2 k y0 y1 y2 y3 y4 y5 y6 y7 y8 y9 y10 y11) (impl_otherOf.j2 (k + 1) y0 y1 y2 y3 y4 y5 y6 y7 y8 y9 y10 y11))
 | 0 => ⟨fun _ _ _ _ _ _ _ r h => by simp [impl_otherOf.l0] at h, fun _ _ _ _ _ _ _ _ _ _ r h => by simp [impl_otherOf.l1] at h, fun _ _ _ _ _ _ _ _ _ _ _ _ r h => by simp [impl_otherOf.j2] at h⟩
 | k + 1 => by
  obtain ⟨ih0, ih1, ih2⟩ := impl_otherOf.mono_l k
  refine ⟨?_, ?_, ?_⟩
  ·intro y0 y1 y2 y3 y4 y5 y6
   unfold impl_otherOf.l0
   repeat' first
   | (with_reducible exact ih0 _ _ _ _ _ _ _)
   | (with_reducible exact ih1 _ _ _ _ _ _ _ _ _ _)
   | (with_reducible exact ih2 _ _ _ _ _ _ _ _ _ _ _ _)
   | (with_reducible exact impl_triangles.mono _ _ _)
   | (with_reducible exact slices_Contains_int_int.mono _ _ _)
   | (with_reducible exact LeO.refl _)
   | (with_reducible exact LeO.none _)
   | (with_reducible refine LeO.ite ?_ ?_)
   | (with_reducible refine LeO.bind ?_ (fun _ => ?_))
   | exact ih0 _ _ _ _ _ _ _
   | exact ih1 _ _ _ _ _ _ _ _ _ _
   | exact ih2 _ _ _ _ _ _ _ _ _ _ _ _
   | exact impl_triangles.mono _ _ _
   | exact slices_Contains_int_int.mono _ _ _
   | exact LeO.none _
   | refine LeO.ite ?_ ?_
   | refine LeO.bind ?_ (fun _ => ?_)
  ·intro y0 y1 y2 y3 y4 y5 y6 y7 y8 y9
   unfold impl_otherOf.l1
   repeat' first
   | (with_reducible exact ih0 _ _ _ _ _ _ _)
   | (with_reducible exact ih1 _ _ _ _ _ _ _ _ _ _)
   | (with_reducible exact ih2 _ _ _ _ _ _ _ _ _ _ _ _)
   | (with_reducible exact impl_triangles.mono _ _ _)
   | (with_reducible exact slices_Contains_int_int.mono _ _ _)
   | (with_reducible exact LeO.refl _)
   | (with_reducible exact LeO.none _)
   | (with_reducible refine LeO.ite ?_ ?_)
   | (with_reducible refine LeO.bind ?_ (fun _ => ?_))
   | exact ih0 _ _ _ _ _ _ _
   | exact ih1 _ _ _ _ _ _ _ _ _ _
   | exact ih2 _ _ _ _ _ _ _ _ _ _ _ _
   | exact impl_triangles.mono _ _ _
   | exact slices_Contains_int_int.mono _ _ _
   | exact LeO.none _
   | refine LeO.ite ?_ ?_
   | refine LeO.bind ?_ (fun _ => ?_)
  ·intro y0 y1 y2 y3 y4 y5 y6 y7 y8 y9 y10 y11
   unfold impl_otherOf.j2
   repeat' first
   | (with_reducible exact ih0 _ _ _ _ _ _ _)
   | (with_reducible exact ih1 _ _ _ _ _ _ _ _ _ _)
   | (with_reducible exact ih2 _ _ _ _ _ _ _ _ _ _ _ _)
   | (with_reducible exact impl_triangles.mono _ _ _)
   | (with_reducible exact slices_Contains_int_int.mono _ _ _)
   | (with_reducible exact LeO.refl _)
   | (with_reducible exact LeO.none _)
   | (with_reducible refine LeO.ite ?_ ?_)
   | (with_reducible refine LeO.bind ?_ (fun _ => ?_))
   | exact ih0 _ _ _ _ _ _ _
   | exact ih1 _ _ _ _ _ _ _ _ _ _
   | exact ih2 _ _ _ _ _ _ _ _ _ _ _ _
   | exact impl_triangles.mono _ _ _
   | exact slices_Contains_int_int.mono _ _ _
   | exact LeO.none _
   | refine LeO.ite ?_ ?_
   | refine LeO.bind ?_ (fun _ => ?_)
theorem impl_otherOf.mono : ∀ a0 a1 a2 a3 k, LeO (impl_otherOf.f k a0 a1 a2 a3) (impl_otherOf.f (k + 1) a0 a1 a2 a3) := by
 intro a0 a1 a2 a3 k
 obtain ⟨ih0, ih1, ih2⟩ := impl_otherOf.mono_l k
 unfold impl_otherOf.f
 repeat' first
   | (with_reducible exact ih0 _ _ _ _ _ _ _)
   | (with_reducible exact ih1 _ _ _ _ _ _ _ _ _ _)
   | (with_reducible exact ih2 _ _ _ _ _ _ _ _ _ _ _ _)
   | (with_reducible exact impl_triangles.mono _ _ _)
   | (with_reducible exact slices_Contains_int_int.mono _ _ _)
   | (with_reducible exact LeO.refl _)
   | (with_reducible exact LeO.none _)
   | (with_reducible refine LeO.ite ?_ ?_)
   | (with_reducible refine LeO.bind ?_ (fun _ => ?_))
   | exact ih0 _ _ _ _ _ _ _
   | exact ih1 _ _ _ _ _ _ _ _ _ _
   | exact ih2 _ _ _ _ _ _ _ _ _ _ _ _
   | exact impl_triangles.mono _ _ _
   | exact slices_Contains_int_int.mono _ _ _
   | exact LeO.none _
   | refine LeO.ite ?_ ?_
   | refine LeO.bind ?_ (fun _ => ?_)
set_option maxHeartbeats 8000000 in
set_option maxRecDepth 100000 in
theorem impl_otherOf.calls (k : Nat) (a0 : Int) (A1 : Option Addr) (c1 : Nat) (l1 : List (S49)) (a2_0 : Int) (a2_1 : Int) (r1 : Int) (r2 : Int) (w : World) (hr1 : Kd.C k49 w A1 l1.length l1) (hc1 : l1.length ≤ c1) (h : impl_otherOf.f k a0 l1 a2_0 a2_1 = some (r1, r2)) :
  Calls Tryd.prog 54 #[.int .i64 a0, .slice A1 l1.length c1, .agg #[.int .i64 a2_0, .int .i64 a2_1]] w fun e w' => e = .returned (.agg #[.int .i64 r1, .int .i64 r2]) ∧ Below w.heap.size w w' := by
 have hu49 := Tryd.underlying49
 have HR1 := Aside0.mk hr1
 have HC1 := Aside0.mk hc1
 clear hr1 hc1
 have HB := Aside0.mk (Below.refl w.heap.size w)
 have H : ((impl_triangles.f k a0 l1).bind fun t277 => (impl_otherOf.l0 k (-1) (-1) t277 (t277.length : Int) 0 a2_0 a2_1)) = some (r1, r2) := h
 clear h
 replace H := Option.bind_eq_some_iff.mp H
 obtain ⟨t277, A40, H⟩ := H
 replace H : (impl_otherOf.l0 k (-1) (-1) t277 (t277.length : Int) 0 a2_0 a2_1) = some (r1, r2) := H
 have A4 := Aside0.mk A40
 clear A40
 have H' := Aside0.mk H
 clear H
 go_enter Tryd.func54, Tryd.ntmps54
 go_wp2_with (first | ((with_reducible refine gate_dst (N := 5) rfl ?_); refine box_event ?hg (N := 5) ?hd (cs := #[.int .i64 a2_0, .int .i64 a2_1]) (t := 49) ?hr ?_; (case hd => rfl); (case hg => rfl); (case hr => first | (go_simp; done) | (go_simp; rfl)); intro gb275 hg w5 hbox hb; have n0_ := Aside0.mk (below_step blw_ hb); have n1_ := Aside0.mk (hbox); have n2_ := Aside0.mk ((by rw [hg]; exact (below_size blw_) : w.heap.size ≤ gb275)); have n3_ := Aside0.mk ((by rw [hg]; exact (below_size blw_) : w.heap.size ≤ gb275)); clear HB; have HB := n0_; have BK275 := n1_; have GW275 := n2_; have GE275 := n3_; clear n0_ n1_ n2_ n3_; clear hb hbox hg) | ((with_reducible refine gate_dst (N := 6) rfl ?_); refine box_event ?hg (N := 6) ?hd (cs := #[.int .i64 0, .int .i64 0]) (t := 49) ?hr ?_; (case hd => rfl); (case hg => rfl); (case hr => first | (go_simp; done) | (go_simp; rfl)); intro gb276 hg w6 hbox hb; have n0_ := Aside0.mk (blk_below (g := gb275) (o := .cells #[.int .i64 a2_0, .int .i64 a2_1] 49 (0, 0)) (bk_ BK275.out) hb); have n1_ := Aside0.mk (below_step bls_ hb); have n2_ := Aside0.mk (hbox); have n3_ := Aside0.mk ((by rw [hg]; exact (below_size bls_) : w.heap.size ≤ gb276)); have n4_ := Aside0.mk ((by rw [hg]; exact (below_size bls_) : w.heap.size ≤ gb276)); have n5_ := Aside0.mk ((by rw [hg]; exact Nat.ne_of_lt (blk_lt (g := gb275) (o := .cells #[.int .i64 a2_0, .int .i64 a2_1] 49 (0, 0)) (bk_ BK275.out)) : gb275 ≠ gb276)); have n6_ := Aside0.mk ((by rw [hg]; exact Nat.ne_of_gt (blk_lt (g := gb275) (o := .cells #[.int .i64 a2_0, .int .i64 a2_1] 49 (0, 0)) (bk_ BK275.out)) : gb276 ≠ gb275)); clear BK275; clear HB; have BK275 := n0_; have HB := n1_; have BK276 := n2_; have GW276 := n3_; have GE276 := n4_; have NB275_276 := n5_; have NB276_275 := n6_; clear n0_ n1_ n2_ n3_ n4_ n5_ n6_; clear hb hbox hg) | ((with_reducible refine gate_callee (f := 71) rfl ?_); refine goesL_ (some 15) rfl rfl Tryd.func71 (by kernel_rfl) rfl #[.int .i64 a0, .slice A1 l1.length c1] rfl amp_ ?_; (with_reducible refine (impl_triangles.calls k a0 _ _ l1 t277 _ ?side1 ?side2 A4.out).mono ?_); (case side1 => repeat (first | exact (Kd.C_below HR1.out HB.out) | (with_reducible refine Kd.C_alloc ?_ _) | (with_reducible refine Kd.C_drewN ?_ _) | (with_reducible refine Kd.C_drew ?_))); (case side2 => exact HC1.out); rintro e w7 ⟨v278, rfl, ho0, hb⟩; refine ⟨_, rfl, ?_⟩; have n0_ := Aside0.mk (Kd.S_lower ho0 (below_size bls_)); have n1_ := Aside0.mk (blk_below (g := gb275) (o := .cells #[.int .i64 a2_0, .int .i64 a2_1] 49 (0, 0)) (bk_ BK275.out) hb); have n2_ := Aside0.mk (blk_below (g := gb276) (o := .cells #[.int .i64 0, .int .i64 0] 49 (0, 0)) (bk_ BK276.out) hb); have n3_ := Aside0.mk (below_step bls_ hb); clear BK275; clear BK276; clear HB; have HO279 := n0_; have BK275 := n1_; have BK276 := n2_; have HB := n3_; clear n0_ n1_ n2_ n3_; (try clear hb); (try clear hb2); (try clear hk); (try clear hi); (try clear ho0); obtain ⟨Ao8, co8, eo8⟩ := Kd.S_slice HO279.out; subst eo8))
 go_loopg [7, 8, 17] k (fun kq v7 v8 v17 w' => ∃ (x7_1 : Int) (x8_1 : Int) (x17_1 : Int), v7 = .int .i64 x7_1 ∧ v8 = .int .i64 x8_1 ∧ v17 = .int .i64 x17_1 ∧ Aside0 (impl_otherOf.l0 kq x7_1 x8_1 t277 (t277.length : Int) x17_1 a2_0 a2_1 = some (r1, r2)) ∧ Aside0 (kq ≤ k) ∧ Aside0 (Kd.S (Kd.slice 3 (Kd.int .i64)) 41 w' w.heap.size (fun _ => True) (.slice Ao8 t277.length co8) t277) ∧ Aside0 (w'.heap[gb275]? = some (.cells #[.int .i64 a2_0, .int .i64 a2_1] 49 (0, 0))) ∧ Aside0 (w'.heap[gb276]? = some (.cells #[.int .i64 0, .int .i64 0] 49 (0, 0))) ∧ Aside0 (Below w.heap.size w w'))
 case atStart => exact ⟨((-1)), ((-1)), (0), rsd_, rsd_, rsd_, H', ⟨Nat.le_refl _⟩, ⟨by (with_reducible repeat (first | apply Kd.S_alloc | apply Kd.S_drewN | apply Kd.S_drew)); exact HO279.out⟩, ⟨bk_ BK275.out⟩, ⟨bk_ BK276.out⟩, ⟨bls_⟩⟩
 case round =>
  clear H'
  try clear c1
  try clear p2
  try clear c5
  try clear c7
  try clear HO_15
  obtain ⟨x7_1, x8_1, x17_1, rfl, rfl, rfl, HA, HK1, HO_15, BK275, BK276, HB⟩ := hrel
  cases gk with
  | zero => exact absurd HA.out (by simp [impl_otherOf.l0])
  | succ k1 =>
   have H := HA.out
   clear HA
   simp only [impl_otherOf.l0] at H
   by_cases c9 : x17_1 < (t277.length : Int)
   ·rw [if_pos c9] at H
    have c9b0 : decide (x17_1 < (t277.length : Int)) = true := decide_eq_true c9
    clear c9
    by_cases c10 : 0 ≤ x17_1
    case neg=>rw [if_neg c10] at H;exact absurd H (by simp)
    rw [if_pos c10] at H
    have c10b0 : decide (0 ≤ x17_1) = true := decide_eq_true c10
    clear c10
    by_cases c11 : x17_1 < (t277.length : Int)
    case neg=>rw [if_neg c11] at H;exact absurd H (by simp)
    rw [if_pos c11] at H
    have c11b0 : decide (x17_1 < (t277.length : Int)) = true := decide_eq_true c11
    clear c11
    replace H := Option.bind_eq_some_iff.mp H
    obtain ⟨t281, A120, H⟩ := H
    replace H : (if t281 = true then ((slices_Contains_int_int.f k1 (rd_L6 t277 x17_1) a2_1).bind fun t282 => (if t282 = true then (impl_otherOf.l1 k1 x7_1 x8_1 t277 (t277.length : Int) x17_1 (rd_L6 t277 x17_1) ((rd_L6 t277 x17_1).length : Int) 0 a2_0 a2_1) else (impl_otherOf.l0 k1 x7_1 x8_1 t277 (t277.length : Int) (wrap64 (x17_1 + 1)) a2_0 a2_1))) else (impl_otherOf.l0 k1 x7_1 x8_1 t277 (t277.length : Int) (wrap64 (x17_1 + 1)) a2_0 a2_1)) = some (r1, r2) := H
    have A12 := Aside0.mk A120
    clear A120
    by_cases c13 : t281 = true
    ·subst c13
     have H1 : ((slices_Contains_int_int.f k1 (rd_L6 t277 x17_1) a2_1).bind fun t282 => (if t282 = true then (impl_otherOf.l1 k1 x7_1 x8_1 t277 (t277.length : Int) x17_1 (rd_L6 t277 x17_1) ((rd_L6 t277 x17_1).length : Int) 0 a2_0 a2_1) else (impl_otherOf.l0 k1 x7_1 x8_1 t277 (t277.length : Int) (wrap64 (x17_1 + 1)) a2_0 a2_1))) = some (r1, r2) := by rw [if_pos rfl] at H; exact H
     clear H
     have H := H1
     clear H1
     replace H := Option.bind_eq_some_iff.mp H
     obtain ⟨t282, A140, H⟩ := H
     replace H : (if t282 = true then (impl_otherOf.l1 k1 x7_1 x8_1 t277 (t277.length : Int) x17_1 (rd_L6 t277 x17_1) ((rd_L6 t277 x17_1).length : Int) 0 a2_0 a2_1) else (impl_otherOf.l0 k1 x7_1 x8_1 t277 (t277.length : Int) (wrap64 (x17_1 + 1)) a2_0 a2_1)) = some (r1, r2) := H
     have A14 := Aside0.mk A140
     clear A140
     by_cases c15 : t282 = true
     ·subst c15
      have H1 : (impl_otherOf.l1 k1 x7_1 x8_1 t277 (t277.length : Int) x17_1 (rd_L6 t277 x17_1) ((rd_L6 t277 x17_1).length : Int) 0 a2_0 a2_1) = some (r1, r2) := by rw [if_pos rfl] at H; exact H
      clear H
      have H := H1
      clear H1
      have H' := Aside0.mk H
      clear H
      have p280 : 0 ≤ (x17_1 : Int) := odt_
      have q280 : x17_1 < (t277.length : Int) := odt_
      obtain ⟨ad280, A280_0, c280_0, e280, hx280_0, hl280_0, hi280_0⟩ := at_L6 (Kd.S_reads' HO_15.out).2.2 x17_1 p280 q280
      cases e280
      obtain ⟨ce280, hce280, hMe280, hcc280⟩ := Kd.S_get HO_15.out [] x17_1 p280 (by first | exact q280 | exact odt_ | (have e_ := (Kd.S_reads' HO_15.out).1; omega))
      obtain ⟨ve280_0, rfl, ge280_0⟩ := hMe280
      have hv280_0 := hcc280 0 _ rfl
      rw [Nat.add_zero, show ((Kd.slice 3 (Kd.int .i64))).sz = 1 from rfl, Nat.mul_one] at hv280_0
      replace hv280_0 := Option.some.inj (hv280_0.symm.trans hx280_0)
      rw [hv280_0] at ge280_0
      have HL280_0 := Aside0.mk (show Kd.R (Kd.int .i64) 3 _ _ _ _ (rd_L6 t277 x17_1) from ge280_0)
      clear hv280_0 ge280_0
      clear hcc280 hce280
      have HR280_0 := Aside0.mk hi280_0
      have HC280_0 := Aside0.mk hl280_0
      clear hi280_0 hl280_0
      replace p280 := eq_true p280
      replace q280 := eq_true q280
      have hnb16 := NB275_276.out
      have hnc16 := NB276_275.out
      have hcz17_0 : wr.cell? ⟨gb275, 0, none⟩ = some (.int .i64 a2_0) := (blk_cell BK275.out 0).trans rfl
      have hcz17_1 : wr.cell? ⟨gb275, 1, none⟩ = some (.int .i64 a2_1) := (blk_cell BK275.out 1).trans rfl
      have hfz17_0 := blk_frozen BK275.out 0
      have hfz17_1 := blk_frozen BK275.out 1
      go_wp2_with (first | ((with_reducible refine gate_callee (f := 72) rfl ?_); refine goesL_ (some 24) rfl rfl Tryd.func72 (by kernel_rfl) rfl #[.slice A280_0 (rd_L6 t277 x17_1).length c280_0, .int .i64 a2_0] rfl amp_ ?_; (with_reducible refine (slices_Contains_int_int.calls k1 _ _ (rd_L6 t277 x17_1) a2_0 true _ ?side1 ?side2 A12.out).mono ?_); (case side1 => repeat (first | exact (by repeat (first | (with_reducible exact HR280_0.out) | (with_reducible refine Kd.C_alloc ?_ _) | (with_reducible refine Kd.C_drewN ?_ _) | (with_reducible refine Kd.C_drew ?_) | exact HR280_0.out)) | (with_reducible refine Kd.C_alloc ?_ _) | (with_reducible refine Kd.C_drewN ?_ _) | (with_reducible refine Kd.C_drew ?_))); (case side2 => exact HC280_0.out); rintro e w' ⟨rfl, ⟨nd, rfl⟩⟩; refine ⟨_, rfl, ?_⟩) | (go_at_call 72; (with_reducible refine (slices_Contains_int_int.calls k1 _ _ (rd_L6 t277 x17_1) a2_1 true _ ?side1 ?side2 A14.out).mono ?_); (case side1 => repeat (first | exact (by repeat (first | (with_reducible exact HR280_0.out) | (with_reducible refine Kd.C_alloc ?_ _) | (with_reducible refine Kd.C_drewN ?_ _) | (with_reducible refine Kd.C_drew ?_) | exact HR280_0.out)) | (with_reducible refine Kd.C_alloc ?_ _) | (with_reducible refine Kd.C_drewN ?_ _) | (with_reducible refine Kd.C_drew ?_))); (case side2 => exact HC280_0.out); rintro e w' ⟨rfl, ⟨nd, rfl⟩⟩))
      go_loopg [7, 8, 35] k1 (fun kq v7 v8 v35 w' => ∃ (x7_2 : Int) (x8_2 : Int) (x35_2 : Int), v7 = .int .i64 x7_2 ∧ v8 = .int .i64 x8_2 ∧ v35 = .int .i64 x35_2 ∧ Aside0 (impl_otherOf.l1 kq x7_2 x8_2 t277 (t277.length : Int) x17_1 (rd_L6 t277 x17_1) ((rd_L6 t277 x17_1).length : Int) x35_2 a2_0 a2_1 = some (r1, r2)) ∧ Aside0 (kq ≤ k1) ∧ Aside0 (Kd.S (Kd.slice 3 (Kd.int .i64)) 41 w' w.heap.size (fun _ => True) (.slice (some ad280) t277.length co8) t277) ∧ Aside0 (w'.heap[gb275]? = some (.cells #[.int .i64 a2_0, .int .i64 a2_1] 49 (0, 0))) ∧ Aside0 (w'.heap[gb276]? = some (.cells #[.int .i64 0, .int .i64 0] 49 (0, 0))) ∧ Aside0 (Kd.C (Kd.int .i64) w' A280_0 (rd_L6 t277 x17_1).length (rd_L6 t277 x17_1)) ∧ Aside0 (Below w.heap.size w w'))
      case atStart => exact ⟨(x7_1), (x8_1), (0), rsd_, rsd_, rsd_, H', ⟨Nat.le_refl _⟩, ⟨by (with_reducible repeat (first | apply Kd.S_alloc | apply Kd.S_drewN | apply Kd.S_drew)); exact HO_15.out⟩, ⟨bk_ BK275.out⟩, ⟨bk_ BK276.out⟩, ⟨by repeat (first | (with_reducible exact HR280_0.out) | (with_reducible refine Kd.C_alloc ?_ _) | (with_reducible refine Kd.C_drewN ?_ _) | (with_reducible refine Kd.C_drew ?_) | exact HR280_0.out)⟩, ⟨bls_⟩⟩
      case round =>
       clear H'
       try clear c1
       try clear c2
       try clear p2
       try clear q2
       try clear hx2
       try clear c5
       try clear p6
       try clear c7
       try clear c9
       try clear c9b0
       try clear c10
       try clear c10b0
       try clear c11
       try clear c11b0
       try clear c13
       try clear c15
       try clear c16
       try clear hcz17_0
       try clear hcz17_1
       try clear hfz17_0
       try clear hfz17_1
       try clear hx280_0
       try clear p2
       try clear p280
       try clear q280
       try clear HO_15
       obtain ⟨x7_2, x8_2, x35_2, rfl, rfl, rfl, HA, HK2, HO_15, BK275, BK276, HR280_0, HB⟩ := hrel
       cases gk with
       | zero => exact absurd HA.out (by simp [impl_otherOf.l1])
       | succ k2 =>
        have H := HA.out
        clear HA
        simp only [impl_otherOf.l1] at H
        by_cases c18 : x35_2 < ((rd_L6 t277 x17_1).length : Int)
        ·rw [if_pos c18] at H
         have c18b0 : decide (x35_2 < ((rd_L6 t277 x17_1).length : Int)) = true := decide_eq_true c18
         clear c18
         by_cases c19 : 0 ≤ x35_2
         case neg=>rw [if_neg c19] at H;exact absurd H (by simp)
         rw [if_pos c19] at H
         have c19b0 : decide (0 ≤ x35_2) = true := decide_eq_true c19
         clear c19
         by_cases c20 : x35_2 < ((rd_L6 t277 x17_1).length : Int)
         case neg=>rw [if_neg c20] at H;exact absurd H (by simp)
         rw [if_pos c20] at H
         have c20b0 : decide (x35_2 < ((rd_L6 t277 x17_1).length : Int)) = true := decide_eq_true c20
         clear c20
         have HC21 := Aside0.mk H
         clear H
         have p283 : 0 ≤ (x35_2 : Int) := odt_
         have q283 : x35_2 < ((rd_L6 t277 x17_1).length : Int) := odt_
         obtain ⟨ad283, e283, hx283_0⟩ := Kd.at_int HR280_0.out x35_2 p283 q283
         cases e283
         (first | replace hx283_0 := (HB.out.cell (World.block_lt_of_cell? w _ hx283_0)).trans hx283_0 | skip)
         replace p283 := eq_true p283
         replace q283 := eq_true q283
         go_upto_region 10 with (fail)
         go_cut [40] (fun v40 wc => ∃ (kq : Nat) (x40_20 : Bool), v40 = .bool x40_20 ∧ Aside0 (impl_otherOf.j2 kq x7_2 x8_2 (rd (rd_L6 t277 x17_1) x35_2) t277 (t277.length : Int) x17_1 (rd_L6 t277 x17_1) ((rd_L6 t277 x17_1).length : Int) x35_2 x40_20 a2_0 a2_1 = some (r1, r2)) ∧ Aside0 (kq ≤ k2) ∧ Aside0 (Kd.S (Kd.slice 3 (Kd.int .i64)) 41 wc w.heap.size (fun _ => True) (.slice (some ad280) t277.length co8) t277) ∧ Aside0 (wc.heap[gb275]? = some (.cells #[.int .i64 a2_0, .int .i64 a2_1] 49 (0, 0))) ∧ Aside0 (wc.heap[gb276]? = some (.cells #[.int .i64 0, .int .i64 0] 49 (0, 0))) ∧ Aside0 (Kd.C (Kd.int .i64) wc (some ad283) (rd_L6 t277 x17_1).length (rd_L6 t277 x17_1)) ∧ Aside0 (Below w.heap.size w wc))
         case first =>
          have H := HC21.out
          clear HC21
          by_cases c22 : (rd (rd_L6 t277 x17_1) x35_2) = a2_0
          ·rw [if_pos c22] at H
           have c22b0 : ((rd (rd_L6 t277 x17_1) x35_2) == a2_0) = true := beq_iff_eq.mpr c22
           have c22b1 : ((rd (rd_L6 t277 x17_1) x35_2) != a2_0) = false := bne_eq_false_iff_eq.mpr c22
           clear c22
           (first | rw [c22b0] | (simp only [i64_w, i32_w]; rw [c22b0]) | skip)
           have H' := Aside0.mk H
           clear H
           have hnb23 := NB275_276.out
           have hnc23 := NB276_275.out
           have hcz24_0 : wr.cell? ⟨gb275, 0, none⟩ = some (.int .i64 a2_0) := (blk_cell BK275.out 0).trans rfl
           have hcz24_1 : wr.cell? ⟨gb275, 1, none⟩ = some (.int .i64 a2_1) := (blk_cell BK275.out 1).trans rfl
           have hfz24_0 := blk_frozen BK275.out 0
           have hfz24_1 := blk_frozen BK275.out 1
           go_wp2
           go_meet
           case rel => exact ⟨_, (true), rsd_, H', ⟨by have := HK1.out; have := HK2.out; first | omega | exact Nat.le_refl _⟩, ⟨by (with_reducible repeat (first | apply Kd.S_alloc | apply Kd.S_drewN | apply Kd.S_drew)); exact HO_15.out⟩, ⟨bk_ BK275.out⟩, ⟨bk_ BK276.out⟩, ⟨by repeat (first | (with_reducible exact HR280_0.out) | (with_reducible refine Kd.C_alloc ?_ _) | (with_reducible refine Kd.C_drewN ?_ _) | (with_reducible refine Kd.C_drew ?_) | exact HR280_0.out)⟩, ⟨bls_⟩⟩
          ·rw [if_neg c22] at H
           have c22b0 : ((rd (rd_L6 t277 x17_1) x35_2) == a2_0) = false := beq_eq_false_iff_ne.mpr c22
           have c22b1 : ((rd (rd_L6 t277 x17_1) x35_2) != a2_0) = true := bne_iff_ne.mpr c22
           (first | rw [c22b0] | (simp only [i64_w, i32_w]; rw [c22b0]) | skip)
           have H' := Aside0.mk H
           clear H
           have hnb25 := NB275_276.out
           have hnc25 := NB276_275.out
           have hcz26_0 : wr.cell? ⟨gb275, 0, none⟩ = some (.int .i64 a2_0) := (blk_cell BK275.out 0).trans rfl
           have hcz26_1 : wr.cell? ⟨gb275, 1, none⟩ = some (.int .i64 a2_1) := (blk_cell BK275.out 1).trans rfl
           have hfz26_0 := blk_frozen BK275.out 0
           have hfz26_1 := blk_frozen BK275.out 1
           go_wp2
           go_meet
           case rel => exact ⟨_, (((rd (rd_L6 t277 x17_1) x35_2) == a2_1)), rsd_, H', ⟨by have := HK1.out; have := HK2.out; first | omega | exact Nat.le_refl _⟩, ⟨by (with_reducible repeat (first | apply Kd.S_alloc | apply Kd.S_drewN | apply Kd.S_drew)); exact HO_15.out⟩, ⟨bk_ BK275.out⟩, ⟨bk_ BK276.out⟩, ⟨by repeat (first | (with_reducible exact HR280_0.out) | (with_reducible refine Kd.C_alloc ?_ _) | (with_reducible refine Kd.C_drewN ?_ _) | (with_reducible refine Kd.C_drew ?_) | exact HR280_0.out)⟩, ⟨bls_⟩⟩
         case rest =>
          clear HC21
          try clear c1
          try clear c2
          try clear p2
          try clear q2
          try clear hx2
          try clear c5
          try clear p6
          try clear c7
          try clear c9
          try clear c9b0
          try clear c10
          try clear c10b0
          try clear c11
          try clear c11b0
          try clear c13
          try clear c15
          try clear c16
          try clear c18
          try clear c18b0
          try clear c19
          try clear c19b0
          try clear c20
          try clear c20b0
          try clear c22
          try clear c22b0
          try clear c22b1
          try clear c23
          try clear c25
          try clear hcz17_0
          try clear hcz17_1
          try clear hcz24_0
          try clear hcz24_1
          try clear hcz26_0
          try clear hcz26_1
          try clear hfz17_0
          try clear hfz17_1
          try clear hfz24_0
          try clear hfz24_1
          try clear hfz26_0
          try clear hfz26_1
          try clear hx280_0
          try clear hx283_0
          try clear p2
          try clear p280
          try clear p283
          try clear p6
          try clear q2
          try clear q280
          try clear q283
          obtain ⟨kq, x40_20, rfl, HA, HJ20, HO_15, BK275, BK276, HR280_0, HB⟩ := hcut
          cases kq with
          | zero => exact absurd HA.out (by simp [impl_otherOf.j2])
          | succ kj20 =>
           have H := HA.out
           clear HA
           simp only [impl_otherOf.j2] at H
           by_cases c27 : x40_20 = true
           ·subst c27
            have H1 : (impl_otherOf.l1 kj20 x7_2 x8_2 t277 (t277.length : Int) x17_1 (rd_L6 t277 x17_1) ((rd_L6 t277 x17_1).length : Int) (wrap64 (x35_2 + 1)) a2_0 a2_1) = some (r1, r2) := by rw [if_pos rfl] at H; exact H
            clear H
            have H := H1
            clear H1
            have H' := Aside0.mk H
            clear H
            go_wp2
            go_roundg kj20
            case measure => have := HK1.out; have := HK2.out; have := HJ20.out; omega
            case rel => exact ⟨(x7_2), (x8_2), (wrap64 (x35_2 + 1)), rsd_, rsd_, rsd_, H', ⟨by have := HK1.out; have := HK2.out; have := HJ20.out; omega⟩, ⟨by (with_reducible repeat (first | apply Kd.S_alloc | apply Kd.S_drewN | apply Kd.S_drew)); exact HO_15.out⟩, ⟨bk_ BK275.out⟩, ⟨bk_ BK276.out⟩, ⟨by repeat (first | (with_reducible exact HR280_0.out) | (with_reducible refine Kd.C_alloc ?_ _) | (with_reducible refine Kd.C_drewN ?_ _) | (with_reducible refine Kd.C_drew ?_) | exact HR280_0.out)⟩, ⟨bls_⟩⟩
           ·replace c27 := Bool.eq_false_iff.mpr c27
            subst c27
            have H1 : ((impl_within.f (rd (rd_L6 t277 x17_1) x35_2) a2_0 a2_1).bind fun t284 => (if t284 = true then (impl_otherOf.l1 kj20 (rd (rd_L6 t277 x17_1) x35_2) x8_2 t277 (t277.length : Int) x17_1 (rd_L6 t277 x17_1) ((rd_L6 t277 x17_1).length : Int) (wrap64 (x35_2 + 1)) a2_0 a2_1) else (impl_otherOf.l1 kj20 x7_2 (rd (rd_L6 t277 x17_1) x35_2) t277 (t277.length : Int) x17_1 (rd_L6 t277 x17_1) ((rd_L6 t277 x17_1).length : Int) (wrap64 (x35_2 + 1)) a2_0 a2_1))) = some (r1, r2) := by rw [if_neg (show ¬ (false = true) by decide)] at H; exact H
            clear H
            have H := H1
            clear H1
            replace H := Option.bind_eq_some_iff.mp H
            obtain ⟨t284, A280, H⟩ := H
            replace H : (if t284 = true then (impl_otherOf.l1 kj20 (rd (rd_L6 t277 x17_1) x35_2) x8_2 t277 (t277.length : Int) x17_1 (rd_L6 t277 x17_1) ((rd_L6 t277 x17_1).length : Int) (wrap64 (x35_2 + 1)) a2_0 a2_1) else (impl_otherOf.l1 kj20 x7_2 (rd (rd_L6 t277 x17_1) x35_2) t277 (t277.length : Int) x17_1 (rd_L6 t277 x17_1) ((rd_L6 t277 x17_1).length : Int) (wrap64 (x35_2 + 1)) a2_0 a2_1)) = some (r1, r2) := H
            have A28 := Aside0.mk A280
            clear A280
            by_cases c29 : t284 = true
            ·subst c29
             have H1 : (impl_otherOf.l1 kj20 (rd (rd_L6 t277 x17_1) x35_2) x8_2 t277 (t277.length : Int) x17_1 (rd_L6 t277 x17_1) ((rd_L6 t277 x17_1).length : Int) (wrap64 (x35_2 + 1)) a2_0 a2_1) = some (r1, r2) := by rw [if_pos rfl] at H; exact H
             clear H
             have H := H1
             clear H1
             have H' := Aside0.mk H
             clear H
             have hnb30 := NB275_276.out
             have hnc30 := NB276_275.out
             have hcz31_0 : wc.cell? ⟨gb275, 0, none⟩ = some (.int .i64 a2_0) := (blk_cell BK275.out 0).trans rfl
             have hcz31_1 : wc.cell? ⟨gb275, 1, none⟩ = some (.int .i64 a2_1) := (blk_cell BK275.out 1).trans rfl
             have hfz31_0 := blk_frozen BK275.out 0
             have hfz31_1 := blk_frozen BK275.out 1
             go_wp2_with (first | ((with_reducible refine gate_callee (f := 24) rfl ?_); refine goesL_ (some 57) rfl rfl Tryd.func24 (by kernel_rfl) rfl #[.int .i64 (rd (rd_L6 t277 x17_1) x35_2), .int .i64 a2_0, .int .i64 a2_1] rfl amp_ ?_; (with_reducible refine (impl_within.calls (rd (rd_L6 t277 x17_1) x35_2) a2_0 a2_1 true _ A28.out).mono ?_); rintro e w' ⟨rfl, ⟨nd, rfl⟩⟩; refine ⟨_, rfl, ?_⟩))
             go_roundg kj20
             case measure => have := HK1.out; have := HK2.out; have := HJ20.out; omega
             case rel => exact ⟨((rd (rd_L6 t277 x17_1) x35_2)), (x8_2), (wrap64 (x35_2 + 1)), rsd_, rsd_, rsd_, H', ⟨by have := HK1.out; have := HK2.out; have := HJ20.out; omega⟩, ⟨by (with_reducible repeat (first | apply Kd.S_alloc | apply Kd.S_drewN | apply Kd.S_drew)); exact HO_15.out⟩, ⟨bk_ BK275.out⟩, ⟨bk_ BK276.out⟩, ⟨by repeat (first | (with_reducible exact HR280_0.out) | (with_reducible refine Kd.C_alloc ?_ _) | (with_reducible refine Kd.C_drewN ?_ _) | (with_reducible refine Kd.C_drew ?_) | exact HR280_0.out)⟩, ⟨bls_⟩⟩
            ·replace c29 := Bool.eq_false_iff.mpr c29
             subst c29
             have H1 : (impl_otherOf.l1 kj20 x7_2 (rd (rd_L6 t277 x17_1) x35_2) t277 (t277.length : Int) x17_1 (rd_L6 t277 x17_1) ((rd_L6 t277 x17_1).length : Int) (wrap64 (x35_2 + 1)) a2_0 a2_1) = some (r1, r2) := by rw [if_neg (show ¬ (false = true) by decide)] at H; exact H
             clear H
             have H := H1
             clear H1
             have H' := Aside0.mk H
             clear H
             have hnb32 := NB275_276.out
             have hnc32 := NB276_275.out
             have hcz33_0 : wc.cell? ⟨gb275, 0, none⟩ = some (.int .i64 a2_0) := (blk_cell BK275.out 0).trans rfl
             have hcz33_1 : wc.cell? ⟨gb275, 1, none⟩ = some (.int .i64 a2_1) := (blk_cell BK275.out 1).trans rfl
             have hfz33_0 := blk_frozen BK275.out 0
             have hfz33_1 := blk_frozen BK275.out 1
             go_wp2_with (first | ((with_reducible refine gate_callee (f := 24) rfl ?_); refine goesL_ (some 57) rfl rfl Tryd.func24 (by kernel_rfl) rfl #[.int .i64 (rd (rd_L6 t277 x17_1) x35_2), .int .i64 a2_0, .int .i64 a2_1] rfl amp_ ?_; (with_reducible refine (impl_within.calls (rd (rd_L6 t277 x17_1) x35_2) a2_0 a2_1 false _ A28.out).mono ?_); rintro e w' ⟨rfl, ⟨nd, rfl⟩⟩; refine ⟨_, rfl, ?_⟩))
             go_roundg kj20
             case measure => have := HK1.out; have := HK2.out; have := HJ20.out; omega
             case rel => exact ⟨(x7_2), ((rd (rd_L6 t277 x17_1) x35_2)), (wrap64 (x35_2 + 1)), rsd_, rsd_, rsd_, H', ⟨by have := HK1.out; have := HK2.out; have := HJ20.out; omega⟩, ⟨by (with_reducible repeat (first | apply Kd.S_alloc | apply Kd.S_drewN | apply Kd.S_drew)); exact HO_15.out⟩, ⟨bk_ BK275.out⟩, ⟨bk_ BK276.out⟩, ⟨by repeat (first | (with_reducible exact HR280_0.out) | (with_reducible refine Kd.C_alloc ?_ _) | (with_reducible refine Kd.C_drewN ?_ _) | (with_reducible refine Kd.C_drew ?_) | exact HR280_0.out)⟩, ⟨bls_⟩⟩
        ·rw [if_neg c18] at H
         have c18b0 : decide (x35_2 < ((rd_L6 t277 x17_1).length : Int)) = false := decide_eq_false c18
         clear c18
         have H' := Aside0.mk H
         clear H
         go_wp2
         go_roundg k2
         case measure => have := HK1.out; have := HK2.out; omega
         case rel => exact ⟨(x7_2), (x8_2), (wrap64 (x17_1 + 1)), rsd_, rsd_, rsd_, H', ⟨by have := HK1.out; have := HK2.out; omega⟩, ⟨by (with_reducible repeat (first | apply Kd.S_alloc | apply Kd.S_drewN | apply Kd.S_drew)); exact HO_15.out⟩, ⟨bk_ BK275.out⟩, ⟨bk_ BK276.out⟩, ⟨bls_⟩⟩
     ·replace c15 := Bool.eq_false_iff.mpr c15
      subst c15
      have H1 : (impl_otherOf.l0 k1 x7_1 x8_1 t277 (t277.length : Int) (wrap64 (x17_1 + 1)) a2_0 a2_1) = some (r1, r2) := by rw [if_neg (show ¬ (false = true) by decide)] at H; exact H
      clear H
      have H := H1
      clear H1
      have H' := Aside0.mk H
      clear H
      have p280 : 0 ≤ (x17_1 : Int) := odt_
      have q280 : x17_1 < (t277.length : Int) := odt_
      obtain ⟨ad280, A280_0, c280_0, e280, hx280_0, hl280_0, hi280_0⟩ := at_L6 (Kd.S_reads' HO_15.out).2.2 x17_1 p280 q280
      cases e280
      obtain ⟨ce280, hce280, hMe280, hcc280⟩ := Kd.S_get HO_15.out [] x17_1 p280 (by first | exact q280 | exact odt_ | (have e_ := (Kd.S_reads' HO_15.out).1; omega))
      obtain ⟨ve280_0, rfl, ge280_0⟩ := hMe280
      have hv280_0 := hcc280 0 _ rfl
      rw [Nat.add_zero, show ((Kd.slice 3 (Kd.int .i64))).sz = 1 from rfl, Nat.mul_one] at hv280_0
      replace hv280_0 := Option.some.inj (hv280_0.symm.trans hx280_0)
      rw [hv280_0] at ge280_0
      have HL280_0 := Aside0.mk (show Kd.R (Kd.int .i64) 3 _ _ _ _ (rd_L6 t277 x17_1) from ge280_0)
      clear hv280_0 ge280_0
      clear hcc280 hce280
      have HR280_0 := Aside0.mk hi280_0
      have HC280_0 := Aside0.mk hl280_0
      clear hi280_0 hl280_0
      replace p280 := eq_true p280
      replace q280 := eq_true q280
      have hnb34 := NB275_276.out
      have hnc34 := NB276_275.out
      have hcz35_0 : wr.cell? ⟨gb275, 0, none⟩ = some (.int .i64 a2_0) := (blk_cell BK275.out 0).trans rfl
      have hcz35_1 : wr.cell? ⟨gb275, 1, none⟩ = some (.int .i64 a2_1) := (blk_cell BK275.out 1).trans rfl
      have hfz35_0 := blk_frozen BK275.out 0
      have hfz35_1 := blk_frozen BK275.out 1
      go_wp2_with (first | ((with_reducible refine gate_callee (f := 72) rfl ?_); refine goesL_ (some 24) rfl rfl Tryd.func72 (by kernel_rfl) rfl #[.slice A280_0 (rd_L6 t277 x17_1).length c280_0, .int .i64 a2_0] rfl amp_ ?_; (with_reducible refine (slices_Contains_int_int.calls k1 _ _ (rd_L6 t277 x17_1) a2_0 true _ ?side1 ?side2 A12.out).mono ?_); (case side1 => repeat (first | exact (by repeat (first | (with_reducible exact HR280_0.out) | (with_reducible refine Kd.C_alloc ?_ _) | (with_reducible refine Kd.C_drewN ?_ _) | (with_reducible refine Kd.C_drew ?_) | exact HR280_0.out)) | (with_reducible refine Kd.C_alloc ?_ _) | (with_reducible refine Kd.C_drewN ?_ _) | (with_reducible refine Kd.C_drew ?_))); (case side2 => exact HC280_0.out); rintro e w' ⟨rfl, ⟨nd, rfl⟩⟩; refine ⟨_, rfl, ?_⟩) | (go_at_call 72; (with_reducible refine (slices_Contains_int_int.calls k1 _ _ (rd_L6 t277 x17_1) a2_1 false _ ?side1 ?side2 A14.out).mono ?_); (case side1 => repeat (first | exact (by repeat (first | (with_reducible exact HR280_0.out) | (with_reducible refine Kd.C_alloc ?_ _) | (with_reducible refine Kd.C_drewN ?_ _) | (with_reducible refine Kd.C_drew ?_) | exact HR280_0.out)) | (with_reducible refine Kd.C_alloc ?_ _) | (with_reducible refine Kd.C_drewN ?_ _) | (with_reducible refine Kd.C_drew ?_))); (case side2 => exact HC280_0.out); rintro e w' ⟨rfl, ⟨nd, rfl⟩⟩))
      go_roundg k1
      case measure => have := HK1.out; omega
      case rel => exact ⟨(x7_1), (x8_1), (wrap64 (x17_1 + 1)), rsd_, rsd_, rsd_, H', ⟨by have := HK1.out; omega⟩, ⟨by (with_reducible repeat (first | apply Kd.S_alloc | apply Kd.S_drewN | apply Kd.S_drew)); exact HO_15.out⟩, ⟨bk_ BK275.out⟩, ⟨bk_ BK276.out⟩, ⟨bls_⟩⟩
    ·replace c13 := Bool.eq_false_iff.mpr c13
     subst c13
     have H1 : (impl_otherOf.l0 k1 x7_1 x8_1 t277 (t277.length : Int) (wrap64 (x17_1 + 1)) a2_0 a2_1) = some (r1, r2) := by rw [if_neg (show ¬ (false = true) by decide)] at H; exact H
     clear H
     have H := H1
     clear H1
     have H' := Aside0.mk H
     clear H
     have p280 : 0 ≤ (x17_1 : Int) := odt_
     have q280 : x17_1 < (t277.length : Int) := odt_
     obtain ⟨ad280, A280_0, c280_0, e280, hx280_0, hl280_0, hi280_0⟩ := at_L6 (Kd.S_reads' HO_15.out).2.2 x17_1 p280 q280
     cases e280
     obtain ⟨ce280, hce280, hMe280, hcc280⟩ := Kd.S_get HO_15.out [] x17_1 p280 (by first | exact q280 | exact odt_ | (have e_ := (Kd.S_reads' HO_15.out).1; omega))
     obtain ⟨ve280_0, rfl, ge280_0⟩ := hMe280
     have hv280_0 := hcc280 0 _ rfl
     rw [Nat.add_zero, show ((Kd.slice 3 (Kd.int .i64))).sz = 1 from rfl, Nat.mul_one] at hv280_0
     replace hv280_0 := Option.some.inj (hv280_0.symm.trans hx280_0)
     rw [hv280_0] at ge280_0
     have HL280_0 := Aside0.mk (show Kd.R (Kd.int .i64) 3 _ _ _ _ (rd_L6 t277 x17_1) from ge280_0)
     clear hv280_0 ge280_0
     clear hcc280 hce280
     have HR280_0 := Aside0.mk hi280_0
     have HC280_0 := Aside0.mk hl280_0
     clear hi280_0 hl280_0
     replace p280 := eq_true p280
     replace q280 := eq_true q280
     have hnb36 := NB275_276.out
     have hnc36 := NB276_275.out
     have hcz37_0 : wr.cell? ⟨gb275, 0, none⟩ = some (.int .i64 a2_0) := (blk_cell BK275.out 0).trans rfl
     have hcz37_1 : wr.cell? ⟨gb275, 1, none⟩ = some (.int .i64 a2_1) := (blk_cell BK275.out 1).trans rfl
     have hfz37_0 := blk_frozen BK275.out 0
     have hfz37_1 := blk_frozen BK275.out 1
     go_wp2_with (first | ((with_reducible refine gate_callee (f := 72) rfl ?_); refine goesL_ (some 24) rfl rfl Tryd.func72 (by kernel_rfl) rfl #[.slice A280_0 (rd_L6 t277 x17_1).length c280_0, .int .i64 a2_0] rfl amp_ ?_; (with_reducible refine (slices_Contains_int_int.calls k1 _ _ (rd_L6 t277 x17_1) a2_0 false _ ?side1 ?side2 A12.out).mono ?_); (case side1 => repeat (first | exact (by repeat (first | (with_reducible exact HR280_0.out) | (with_reducible refine Kd.C_alloc ?_ _) | (with_reducible refine Kd.C_drewN ?_ _) | (with_reducible refine Kd.C_drew ?_) | exact HR280_0.out)) | (with_reducible refine Kd.C_alloc ?_ _) | (with_reducible refine Kd.C_drewN ?_ _) | (with_reducible refine Kd.C_drew ?_))); (case side2 => exact HC280_0.out); rintro e w' ⟨rfl, ⟨nd, rfl⟩⟩; refine ⟨_, rfl, ?_⟩))
     go_roundg k1
     case measure => have := HK1.out; omega
     case rel => exact ⟨(x7_1), (x8_1), (wrap64 (x17_1 + 1)), rsd_, rsd_, rsd_, H', ⟨by have := HK1.out; omega⟩, ⟨by (with_reducible repeat (first | apply Kd.S_alloc | apply Kd.S_drewN | apply Kd.S_drew)); exact HO_15.out⟩, ⟨bk_ BK275.out⟩, ⟨bk_ BK276.out⟩, ⟨bls_⟩⟩
   ·rw [if_neg c9] at H
    have c9b0 : decide (x17_1 < (t277.length : Int)) = false := decide_eq_false c9
    clear c9
    obtain ⟨ji38, hji38⟩ : ∃ j_ : Int, (mn x7_1 x8_1) = j_ := ⟨_, rfl⟩
    replace H : (some (ji38, mx x7_1 x8_1)) = some (r1, r2) := by first | (rw [hji38] at H; exact H) | (simp only [hji38] at H ⊢; exact H)
    have hji38_ : (if x8_1 < x7_1 then x8_1 else x7_1) = ji38 := hji38
    obtain ⟨ji39, hji39⟩ : ∃ j_ : Int, (mx x7_1 x8_1) = j_ := ⟨_, rfl⟩
    replace H : (some (ji38, ji39)) = some (r1, r2) := by first | (rw [hji39] at H; exact H) | (simp only [hji39] at H ⊢; exact H)
    have hji39_ : (if x7_1 < x8_1 then x8_1 else x7_1) = ji39 := hji39
    simp only [Option.some.injEq, Prod.mk.injEq] at H
    obtain ⟨rfl, rfl⟩ := H
    have hnb40 := NB276_275.out
    have hnc40 := NB275_276.out
    have hcz41_0 : wr.cell? ⟨gb276, 0, none⟩ = some (.int .i64 0) := (blk_cell BK276.out 0).trans rfl
    have hcz41_1 : wr.cell? ⟨gb276, 1, none⟩ = some (.int .i64 0) := (blk_cell BK276.out 1).trans rfl
    have hfz41_0 := blk_frozen BK276.out 0
    have hfz41_1 := blk_frozen BK276.out 1
    go_wp2
    refine bodyPost_ret (results_cell_row rfl _ _ gb276 49 #[.int .i64 ji38, .int .i64 ji39] (0, 0) _ rfl (by (with_reducible repeat (first | refine blk_drewN ?_ _ | refine blk_drew ?_ | refine blk_alloc ?_ _)); refine blk_put (cs := #[.int .i64 ji38, .int .i64 0]) ?_ 1 _ rfl; (with_reducible repeat (first | refine blk_drewN ?_ _ | refine blk_drew ?_ | refine blk_alloc ?_ _)); refine blk_put (cs := #[.int .i64 0, .int .i64 0]) ?_ 0 _ rfl; (with_reducible repeat (first | refine blk_drewN ?_ _ | refine blk_drew ?_ | refine blk_alloc ?_ _)); exact BK276.out) Tryd.underlying49 rfl (by kernel_rfl)) rfl ?_
    exact ⟨by first | rfl | (simp [errW_none, errW_some] <;> rfl) | (simp only [← hji38, ← hji39]; first | rfl | (simp [errW_none, errW_some] <;> rfl)) | (simp [*, errW_none, errW_some] <;> rfl), bls_⟩

/-! ### cmp_Or_int: function 75 -/
def cmp_Or_int.l0 : Nat → Int → List Int → Int → Int → Option (Int)
 | 0, _, _, _, _ => none
 | k + 1, x3, x6, x7, x8 => if x8 < x7 then (if 0 ≤ x8 then (if x8 < (x6.length : Int) then (if (rd x6 x8) = x3 then (cmp_Or_int.l0 k x3 x6 x7 (wrap64 (x8 + 1))) else (some (rd x6 x8))) else (none)) else (none)) else (some x3)
def cmp_Or_int.f (k : Nat) (l0 : List Int) : Option (Int) := cmp_Or_int.l0 k 0 l0 (l0.length : Int) 0
theorem cmp_Or_int.mono_l : ∀ k, (∀ y0 y1 y2 y3, LeO (cmp_Or_int.l0 k y0 y1 y2 y3) (cmp_Or_int.l0 (k + 1) y0 y1 y2 y3))
 | 0 => fun _ _ _ _ r h => by simp [cmp_Or_int.l0] at h
 | k + 1 => by
  have ih0 := cmp_Or_int.mono_l k
  ·intro y0 y1 y2 y3
   unfold cmp_Or_int.l0
   repeat' first
   | (with_reducible exact ih0 _ _ _ _)
   | (with_reducible exact LeO.refl _)
   | (with_reducible exact LeO.none _)
   | (with_reducible refine LeO.ite ?_ ?_)
   | (with_reducible refine LeO.bind ?_ (fun _ => ?_))
   | exact ih0 _ _ _ _
   | exact LeO.none _
   | refine LeO.ite ?_ ?_
   | refine LeO.bind ?_ (fun _ => ?_)
theorem cmp_Or_int.mono : ∀ a0 k, LeO (cmp_Or_int.f k a0) (cmp_Or_int.f (k + 1) a0) := by
 intro a0 k
 have ih0 := cmp_Or_int.mono_l k
 unfold cmp_Or_int.f
 repeat' first
   | (with_reducible exact ih0 _ _ _ _)
   | (with_reducible exact LeO.refl _)
   | (with_reducible exact LeO.none _)
   | (with_reducible refine LeO.ite ?_ ?_)
   | (with_reducible refine LeO.bind ?_ (fun _ => ?_))
   | exact ih0 _ _ _ _
   | exact LeO.none _
   | refine LeO.ite ?_ ?_
   | refine LeO.bind ?_ (fun _ => ?_)
set_option maxHeartbeats 8000000 in
set_option maxRecDepth 100000 in
theorem cmp_Or_int.calls (k : Nat) (A0 : Option Addr) (c0 : Nat) (l0 : List Int) (r : Int) (w : World) (hr0 : Kd.C (Kd.int .i64) w A0 l0.length l0) (hc0 : l0.length ≤ c0) (h : cmp_Or_int.f k l0 = some r) :
  Calls Tryd.prog 75 #[.slice A0 l0.length c0] w fun e w' => e = .returned (.int .i64 r) ∧ Drawn0 w w' := by
 have HR0 := Aside0.mk hr0
 have HC0 := Aside0.mk hc0
 clear hr0 hc0
 have H : (cmp_Or_int.l0 k 0 l0 (l0.length : Int) 0) = some r := h
 clear h
 have H' := Aside0.mk H
 clear H
 go_enter Tryd.func75, Tryd.ntmps75
 go_wp2
 go_loopg [8] k (fun kq v8 w' => ∃ (x8_1 : Int), v8 = .int .i64 x8_1 ∧ Aside0 (cmp_Or_int.l0 kq 0 l0 (l0.length : Int) x8_1 = some r) ∧ Aside0 (kq ≤ k) ∧ Drawn0 w w')
 case atStart => exact ⟨(0), rsd_, H', ⟨Nat.le_refl _⟩, by repeat (first | exact Drawn0.refl _ | apply Drawn0.step)⟩
 case round =>
  clear H'
  obtain ⟨x8_1, rfl, HA, HK1, ⟨m1, rfl⟩⟩ := hrel
  cases gk with
  | zero => exact absurd HA.out (by simp [cmp_Or_int.l0])
  | succ k1 =>
   have H := HA.out
   clear HA
   simp only [cmp_Or_int.l0] at H
   by_cases c2 : x8_1 < (l0.length : Int)
   ·rw [if_pos c2] at H
    have c2b0 : decide (x8_1 < (l0.length : Int)) = true := decide_eq_true c2
    clear c2
    by_cases c3 : 0 ≤ x8_1
    case neg=>rw [if_neg c3] at H;exact absurd H (by simp)
    rw [if_pos c3] at H
    have c3b0 : decide (0 ≤ x8_1) = true := decide_eq_true c3
    clear c3
    by_cases c4 : x8_1 < (l0.length : Int)
    case neg=>rw [if_neg c4] at H;exact absurd H (by simp)
    rw [if_pos c4] at H
    have c4b0 : decide (x8_1 < (l0.length : Int)) = true := decide_eq_true c4
    clear c4
    by_cases c5 : (rd l0 x8_1) = 0
    ·rw [if_pos c5] at H
     have c5b0 : ((rd l0 x8_1) == 0) = true := beq_iff_eq.mpr c5
     have c5b1 : ((rd l0 x8_1) != 0) = false := bne_eq_false_iff_eq.mpr c5
     clear c5
     have H' := Aside0.mk H
     clear H
     have p285 : 0 ≤ (x8_1 : Int) := odt_
     have q285 : x8_1 < (l0.length : Int) := odt_
     obtain ⟨ad285, e285, hx285_0⟩ := Kd.at_int HR0.out x8_1 p285 q285
     cases e285
     replace p285 := eq_true p285
     replace q285 := eq_true q285
     go_wp2
     go_roundg k1
     case measure => have := HK1.out; omega
     case rel => exact ⟨(wrap64 (x8_1 + 1)), rsd_, H', ⟨by have := HK1.out; omega⟩, by repeat (first | exact Drawn0.refl _ | apply Drawn0.step)⟩
    ·rw [if_neg c5] at H
     have c5b0 : ((rd l0 x8_1) == 0) = false := beq_eq_false_iff_ne.mpr c5
     have c5b1 : ((rd l0 x8_1) != 0) = true := bne_iff_ne.mpr c5
     obtain rfl := Option.some.inj H
     have p285 : 0 ≤ (x8_1 : Int) := odt_
     have q285 : x8_1 < (l0.length : Int) := odt_
     obtain ⟨ad285, e285, hx285_0⟩ := Kd.at_int HR0.out x8_1 p285 q285
     cases e285
     replace p285 := eq_true p285
     replace q285 := eq_true q285
     go_wp2
     go_ret
     exact dr_
   ·rw [if_neg c2] at H
    have c2b0 : decide (x8_1 < (l0.length : Int)) = false := decide_eq_false c2
    clear c2
    obtain rfl := Option.some.inj H
    go_wp2
    go_ret
    exact dr_

/-! ### cmp_isNaN_int: function 92 -/
def cmp_isNaN_int.f (a0 : Int) : Option (Bool) := some (a0 != a0)
set_option maxHeartbeats 8000000 in
set_option maxRecDepth 100000 in
theorem cmp_isNaN_int.calls (a0 : Int) (r : Bool) (w : World) (h : cmp_isNaN_int.f a0 = some r) :
  Calls Tryd.prog 92 #[.int .i64 a0] w fun e w' => e = .returned (.bool r) ∧ Drawn0 w w' := by
 have H : (some (a0 != a0)) = some r := h
 clear h
 obtain rfl := Option.some.inj H
 go_enter Tryd.func92, Tryd.ntmps92
 go_wp2
 go_ret
 exact dr_

/-! ### cmp_Compare_int: function 76 -/
def cmp_Compare_int.f (a0 : Int) (a1 : Int) : Option (Int) := (cmp_isNaN_int.f a0).bind fun t286 => ((cmp_isNaN_int.f a1).bind fun t287 => (if t286 = true then (if t287 = true then (some 0) else (some (-1))) else (if t287 = true then (some 1) else (if a0 < a1 then (some (-1)) else (if a0 > a1 then (some 1) else (some 0))))))
set_option maxHeartbeats 8000000 in
set_option maxRecDepth 100000 in
theorem cmp_Compare_int.calls (a0 : Int) (a1 : Int) (r : Int) (w : World) (h : cmp_Compare_int.f a0 a1 = some r) :
  Calls Tryd.prog 76 #[.int .i64 a0, .int .i64 a1] w fun e w' => e = .returned (.int .i64 r) ∧ Drawn0 w w' := by
 have H : ((cmp_isNaN_int.f a0).bind fun t286 => ((cmp_isNaN_int.f a1).bind fun t287 => (if t286 = true then (if t287 = true then (some 0) else (some (-1))) else (if t287 = true then (some 1) else (if a0 < a1 then (some (-1)) else (if a0 > a1 then (some 1) else (some 0))))))) = some r := h
 clear h
 replace H := Option.bind_eq_some_iff.mp H
 obtain ⟨t286, A30, H⟩ := H
 replace H : ((cmp_isNaN_int.f a1).bind fun t287 => (if t286 = true then (if t287 = true then (some 0) else (some (-1))) else (if t287 = true then (some 1) else (if a0 < a1 then (some (-1)) else (if a0 > a1 then (some 1) else (some 0)))))) = some r := H
 have A3 := Aside0.mk A30
 clear A30
 replace H := Option.bind_eq_some_iff.mp H
 obtain ⟨t287, A40, H⟩ := H
 replace H : (if t286 = true then (if t287 = true then (some 0) else (some (-1))) else (if t287 = true then (some 1) else (if a0 < a1 then (some (-1)) else (if a0 > a1 then (some 1) else (some 0))))) = some r := H
 have A4 := Aside0.mk A40
 clear A40
 by_cases c5 : t286 = true
 ·subst c5
  have H1 : (if t287 = true then (some 0) else (some (-1))) = some r := by rw [if_pos rfl] at H; exact H
  clear H
  have H := H1
  clear H1
  by_cases c6 : t287 = true
  ·subst c6
   have H1 : (some 0) = some r := by rw [if_pos rfl] at H; exact H
   clear H
   have H := H1
   clear H1
   obtain rfl := Option.some.inj H
   go_enter Tryd.func76, Tryd.ntmps76
   go_wp2_with (first | ((with_reducible refine gate_callee (f := 92) rfl ?_); refine goesL_ (some 8) rfl rfl Tryd.func92 (by kernel_rfl) rfl #[.int .i64 a0] rfl amp_ ?_; (with_reducible refine (cmp_isNaN_int.calls a0 true _ A3.out).mono ?_); rintro e w' ⟨rfl, ⟨nd, rfl⟩⟩; refine ⟨_, rfl, ?_⟩) | ((with_reducible refine gate_callee (f := 92) rfl ?_); refine goesL_ (some 10) rfl rfl Tryd.func92 (by kernel_rfl) rfl #[.int .i64 a1] rfl amp_ ?_; (with_reducible refine (cmp_isNaN_int.calls a1 true _ A4.out).mono ?_); rintro e w' ⟨rfl, ⟨nd, rfl⟩⟩; refine ⟨_, rfl, ?_⟩))
   go_ret
   exact dr_
  ·replace c6 := Bool.eq_false_iff.mpr c6
   subst c6
   have H1 : (some (-1)) = some r := by rw [if_neg (show ¬ (false = true) by decide)] at H; exact H
   clear H
   have H := H1
   clear H1
   obtain rfl := Option.some.inj H
   go_enter Tryd.func76, Tryd.ntmps76
   go_wp2_with (first | ((with_reducible refine gate_callee (f := 92) rfl ?_); refine goesL_ (some 8) rfl rfl Tryd.func92 (by kernel_rfl) rfl #[.int .i64 a0] rfl amp_ ?_; (with_reducible refine (cmp_isNaN_int.calls a0 true _ A3.out).mono ?_); rintro e w' ⟨rfl, ⟨nd, rfl⟩⟩; refine ⟨_, rfl, ?_⟩) | ((with_reducible refine gate_callee (f := 92) rfl ?_); refine goesL_ (some 10) rfl rfl Tryd.func92 (by kernel_rfl) rfl #[.int .i64 a1] rfl amp_ ?_; (with_reducible refine (cmp_isNaN_int.calls a1 false _ A4.out).mono ?_); rintro e w' ⟨rfl, ⟨nd, rfl⟩⟩; refine ⟨_, rfl, ?_⟩))
   go_ret
   exact dr_
 ·replace c5 := Bool.eq_false_iff.mpr c5
  subst c5
  have H1 : (if t287 = true then (some 1) else (if a0 < a1 then (some (-1)) else (if a0 > a1 then (some 1) else (some 0)))) = some r := by rw [if_neg (show ¬ (false = true) by decide)] at H; exact H
  clear H
  have H := H1
  clear H1
  by_cases c7 : t287 = true
  ·subst c7
   have H1 : (some 1) = some r := by rw [if_pos rfl] at H; exact H
   clear H
   have H := H1
   clear H1
   obtain rfl := Option.some.inj H
   go_enter Tryd.func76, Tryd.ntmps76
   go_wp2_with (first | ((with_reducible refine gate_callee (f := 92) rfl ?_); refine goesL_ (some 8) rfl rfl Tryd.func92 (by kernel_rfl) rfl #[.int .i64 a0] rfl amp_ ?_; (with_reducible refine (cmp_isNaN_int.calls a0 false _ A3.out).mono ?_); rintro e w' ⟨rfl, ⟨nd, rfl⟩⟩; refine ⟨_, rfl, ?_⟩) | ((with_reducible refine gate_callee (f := 92) rfl ?_); refine goesL_ (some 10) rfl rfl Tryd.func92 (by kernel_rfl) rfl #[.int .i64 a1] rfl amp_ ?_; (with_reducible refine (cmp_isNaN_int.calls a1 true _ A4.out).mono ?_); rintro e w' ⟨rfl, ⟨nd, rfl⟩⟩; refine ⟨_, rfl, ?_⟩))
   go_ret
   exact dr_
  ·replace c7 := Bool.eq_false_iff.mpr c7
   subst c7
   have H1 : (if a0 < a1 then (some (-1)) else (if a0 > a1 then (some 1) else (some 0))) = some r := by rw [if_neg (show ¬ (false = true) by decide)] at H; exact H
   clear H
   have H := H1
   clear H1
   by_cases c8 : a0 < a1
   ·rw [if_pos c8] at H
    have c8b0 : decide (a0 < a1) = true := decide_eq_true c8
    clear c8
    obtain rfl := Option.some.inj H
    go_enter Tryd.func76, Tryd.ntmps76
    go_wp2_with (first | ((with_reducible refine gate_callee (f := 92) rfl ?_); refine goesL_ (some 8) rfl rfl Tryd.func92 (by kernel_rfl) rfl #[.int .i64 a0] rfl amp_ ?_; (with_reducible refine (cmp_isNaN_int.calls a0 false _ A3.out).mono ?_); rintro e w' ⟨rfl, ⟨nd, rfl⟩⟩; refine ⟨_, rfl, ?_⟩) | ((with_reducible refine gate_callee (f := 92) rfl ?_); refine goesL_ (some 10) rfl rfl Tryd.func92 (by kernel_rfl) rfl #[.int .i64 a1] rfl amp_ ?_; (with_reducible refine (cmp_isNaN_int.calls a1 false _ A4.out).mono ?_); rintro e w' ⟨rfl, ⟨nd, rfl⟩⟩; refine ⟨_, rfl, ?_⟩))
    go_ret
    exact dr_
   ·rw [if_neg c8] at H
    have c8b0 : decide (a0 < a1) = false := decide_eq_false c8
    clear c8
    by_cases c9 : a0 > a1
    ·rw [if_pos c9] at H
     have c9b0 : decide (a1 < a0) = true := decide_eq_true c9
     clear c9
     obtain rfl := Option.some.inj H
     go_enter Tryd.func76, Tryd.ntmps76
     go_wp2_with (first | ((with_reducible refine gate_callee (f := 92) rfl ?_); refine goesL_ (some 8) rfl rfl Tryd.func92 (by kernel_rfl) rfl #[.int .i64 a0] rfl amp_ ?_; (with_reducible refine (cmp_isNaN_int.calls a0 false _ A3.out).mono ?_); rintro e w' ⟨rfl, ⟨nd, rfl⟩⟩; refine ⟨_, rfl, ?_⟩) | ((with_reducible refine gate_callee (f := 92) rfl ?_); refine goesL_ (some 10) rfl rfl Tryd.func92 (by kernel_rfl) rfl #[.int .i64 a1] rfl amp_ ?_; (with_reducible refine (cmp_isNaN_int.calls a1 false _ A4.out).mono ?_); rintro e w' ⟨rfl, ⟨nd, rfl⟩⟩; refine ⟨_, rfl, ?_⟩))
     go_ret
     exact dr_
    ·rw [if_neg c9] at H
     have c9b0 : decide (a1 < a0) = false := decide_eq_false c9
     clear c9
     obtain rfl := Option.some.inj H
     go_enter Tryd.func76, Tryd.ntmps76
     go_wp2_with (first | ((with_reducible refine gate_callee (f := 92) rfl ?_); refine goesL_ (some 8) rfl rfl Tryd.func92 (by kernel_rfl) rfl #[.int .i64 a0] rfl amp_ ?_; (with_reducible refine (cmp_isNaN_int.calls a0 false _ A3.out).mono ?_); rintro e w' ⟨rfl, ⟨nd, rfl⟩⟩; refine ⟨_, rfl, ?_⟩) | ((with_reducible refine gate_callee (f := 92) rfl ?_); refine goesL_ (some 10) rfl rfl Tryd.func92 (by kernel_rfl) rfl #[.int .i64 a1] rfl amp_ ?_; (with_reducible refine (cmp_isNaN_int.calls a1 false _ A4.out).mono ?_); rintro e w' ⟨rfl, ⟨nd, rfl⟩⟩; refine ⟨_, rfl, ?_⟩))
     go_ret
     exact dr_

end Go.Proofs.YtgblginphicacaaDoor.PFnExactWidestDistance
