-- WRITTEN BY A PROGRAM OF THIS WORK (wip/tools/ppatch.py) for this claim.
import Derived.Test.YtgblginphicacaaDoorPFnExactFarthestByFlipsx0
import Derived.Test.YtgblginphicacaaDoorPFnExactFarthestByFlipsx11
import Derived.Test.YtgblginphicacaaDoorPFnExactFarthestByFlipsx14
namespace Go.Proofs.YtgblginphicacaaDoor.PFnExactFarthestByFlips
open Go.RowKit Go.Proofs.YtgblginphicacaaDoorW.PrintWords Go.Proofs.YtgblginphicacaaDoorW.PrintLast Go.Proofs.YtgblginphicacaaDoorW.PrintMore
attribute [local go_sem] max2_int min2_int max_two min_two max_three min_three max_four min_four   -- for this text's walks alone
set_option linter.unusedVariables false
set_option linter.unusedSimpArgs false

/-! ### impl_otherOf: function 54 -/
mutual
def impl_otherOf.l0 : Nat → Int → Int → List (List Int) → Int → Int → Int → Int → Option (Int × Int)
 | 0, _, _, _, _, _, _, _ => none
 | k + 1, x7, x8, x15, x16, x17, x308000, x308001 => if x17 < x16 then (if 0 ≤ x17 then (if x17 < (x15.length : Int) then ((slices_Contains_int_int.f k (rd_L5 x15 x17) x308000).bind fun t313 => (if t313 = true then ((slices_Contains_int_int.f k (rd_L5 x15 x17) x308001).bind fun t314 => (if t314 = true then (impl_otherOf.l1 k x7 x8 x15 x16 x17 (rd_L5 x15 x17) ((rd_L5 x15 x17).length : Int) 0 x308000 x308001) else (impl_otherOf.l0 k x7 x8 x15 x16 (wrap64 (x17 + 1)) x308000 x308001))) else (impl_otherOf.l0 k x7 x8 x15 x16 (wrap64 (x17 + 1)) x308000 x308001))) else (none)) else (none)) else (some (mn x7 x8, mx x7 x8))
def impl_otherOf.l1 : Nat → Int → Int → List (List Int) → Int → Int → List Int → Int → Int → Int → Int → Option (Int × Int)
 | 0, _, _, _, _, _, _, _, _, _, _ => none
 | k + 1, x7, x8, x15, x16, x17, x33, x34, x35, x308000, x308001 => if x35 < x34 then (if 0 ≤ x35 then (if x35 < (x33.length : Int) then (if (rd x33 x35) = x308000 then (impl_otherOf.j2 k x7 x8 (rd x33 x35) x15 x16 x17 x33 x34 x35 true x308000 x308001) else (impl_otherOf.j2 k x7 x8 (rd x33 x35) x15 x16 x17 x33 x34 x35 ((rd x33 x35) == x308001) x308000 x308001)) else (none)) else (none)) else (impl_otherOf.l0 k x7 x8 x15 x16 (wrap64 (x17 + 1)) x308000 x308001)
def impl_otherOf.j2 : Nat → Int → Int → Int → List (List Int) → Int → Int → List Int → Int → Int → Bool → Int → Int → Option (Int × Int)
 | 0, _, _, _, _, _, _, _, _, _, _, _, _ => none
 | k + 1, x7, x8, x12, x15, x16, x17, x33, x34, x35, x40, x308000, x308001 => if x40 = true then (impl_otherOf.l1 k x7 x8 x15 x16 x17 x33 x34 (wrap64 (x35 + 1)) x308000 x308001) else ((impl_within.f x12 x308000 x308001).bind fun t316 => (if t316 = true then (impl_otherOf.l1 k x12 x8 x15 x16 x17 x33 x34 (wrap64 (x35 + 1)) x308000 x308001) else (impl_otherOf.l1 k x7 x12 x15 x16 x17 x33 x34 (wrap64 (x35 + 1)) x308000 x308001)))
end
def impl_otherOf.f (k : Nat) (a0 : Int) (l1 : List (S49)) (a2_0 : Int) (a2_1 : Int) : Option (Int × Int) := (impl_triangles.f k a0 l1).bind fun t309 => (impl_otherOf.l0 k (-1) (-1) t309 (t309.length : Int) 0 a2_0 a2_1)
theorem impl_otherOf.mono_l : ∀ k, (∀ y0 y1 y2 y3 y4 y5 y6, LeO (impl_otherOf.l0 k y0 y1 y2 y3 y4 y5 y6) (impl_otherOf.l0 (k + 1) y0 y1 y2 y3 y4 y5 y6)) ∧ (∀ y0 y1 y2 y3 y4 y5 y6 y7 y8 y9, LeO (impl_otherOf.l1 k y0 y1 y2 y3 y4 y5 y6 y7 y8 y9) (impl_otherOf.l1 (k + 1) y0 y1 y2 y3 y4 y5 y6 y7 y8 y9)) ∧ (∀ y0 y1 y2 y3 y4 y5 y6 y7 y8 y9 y10 y11, LeO (impl_otherOf.j2 k y0 y1 y2 y3 y4 y5 y6 y7 y8 y9 y10 y11) (impl_otherOf.j2 (k + 1) y0 y1 y2 y3 y4 y5 y6 y7 y8 y9 y10 y11))
 | 0 => ⟨fun _ _ _ _ _ _ _ r h => by simp [impl_otherOf.l0] at h, fun _ _ _ _ _ _ _ _ _ _ r h => by simp [impl_otherOf.l1] at h, fun _ _ _ _ _ _ _ _ _ _ _ _ r h => by simp [impl_otherOf.j2] at h⟩
 | k + 1 => by
  obtain ⟨ih0, ih1, ih2⟩ := impl_otherOf.mono_l k
  refine ⟨?_, ?_, ?_⟩
  ·intro y0 y1 y2 y3 y4 y5 y6
   unfold impl_otherOf.l0
   repeat' first
   | (with_reducible exact ih0 _ _ _ _ _ _ _)
   | (with_reducible exact ih1 _ _ _ _ _ _ _ _ _ _)
   | (with_reducible exact ih2 _ _ _ _ _ _ _ _ _ _ _ _)
   | (with_reducible exact impl_triangles.mono _ _ _)
   | (with_reducible exact slices_Contains_int_int.mono _ _ _)
   | (with_reducible exact LeO.refl _)
   | (with_reducible exact LeO.none _)
   | (with_reducible refine LeO.ite ?_ ?_)
   | (with_reducible refine LeO.bind ?_ (fun _ => ?_))
   | exact ih0 _ _ _ _ _ _ _
   | exact ih1 _ _ _ _ _ _ _ _ _ _
   | exact ih2 _ _ _ _ _ _ _ _ _ _ _ _
   | exact impl_triangles.mono _ _ _
   | exact slices_Contains_int_int.mono _ _ _
   | exact LeO.none _
   | refine LeO.ite ?_ ?_
   | refine LeO.bind ?_ (fun _ => ?_)
  ·intro y0 y1 y2 y3 y4 y5 y6 y7 y8 y9
   unfold impl_otherOf.l1
   repeat' first
   | (with_reducible exact ih0 _ _ _ _ _ _ _)
   | (with_reducible exact ih1 _ _ _ _ _ _ _ _ _ _)
   | (with_reducible exact ih2 _ _ _ _ _ _ _ _ _ _ _ _)
   | (with_reducible exact impl_triangles.mono _ _ _)
   | (with_reducible exact slices_Contains_int_int.mono _ _ _)
   | (with_reducible exact LeO.refl _)
   | (with_reducible exact LeO.none _)
   | (with_reducible refine LeO.ite ?_ ?_)
   | (with_reducible refine LeO.bind ?_ (fun _ => ?_))
   | exact ih0 _ _ _ _ _ _ _
   | exact ih1 _ _ _ _ _ _ _ _ _ _
   | exact ih2 _ _ _ _ _ _ _ _ _ _ _ _
   | exact impl_triangles.mono _ _ _
   | exact slices_Contains_int_int.mono _ _ _
   | exact LeO.none _
   | refine LeO.ite ?_ ?_
   | refine LeO.bind ?_ (fun _ => ?_)
  ·intro y0 y1 y2 y3 y4 y5 y6 y7 y8 y9 y10 y11
   unfold impl_otherOf.j2
   repeat' first
   | (with_reducible exact ih0 _ _ _ _ _ _ _)
   | (with_reducible exact ih1 _ _ _ _ _ _ _ _ _ _)
   | (with_reducible exact ih2 _ _ _ _ _ _ _ _ _ _ _ _)
   | (with_reducible exact impl_triangles.mono _ _ _)
   | (with_reducible exact slices_Contains_int_int.mono _ _ _)
   | (with_reducible exact LeO.refl _)
   | (with_reducible exact LeO.none _)
   | (with_reducible refine LeO.ite ?_ ?_)
   | (with_reducible refine LeO.bind ?_ (fun _ => ?_))
   | exact ih0 _ _ _ _ _ _ _
   | exact ih1 _ _ _ _ _ _ _ _ _ _
   | exact ih2 _ _ _ _ _ _ _ _ _ _ _ _
   | exact impl_triangles.mono _ _ _
   | exact slices_Contains_int_int.mono _ _ _
   | exact LeO.none _
   | refine LeO.ite ?_ ?_
   | refine LeO.bind ?_ (fun _ => ?_)
theorem impl_otherOf.mono : ∀ a0 a1 a2 a3 k, LeO (impl_otherOf.f k a0 a1 a2 a3) (impl_otherOf.f (k + 1) a0 a1 a2 a3) := by
 intro a0 a1 a2 a3 k
 obtain ⟨ih0, ih1, ih2⟩ := impl_otherOf.mono_l k
 unfold impl_otherOf.f
 repeat' first
   | (with_reducible exact ih0 _ _ _ _ _ _ _)
   | (with_reducible exact ih1 _ _ _ _ _ _ _ _ _ _)
   | (with_reducible exact ih2 _ _ _ _ _ _ _ _ _ _ _ _)
   | (with_reducible exact impl_triangles.mono _ _ _)
   | (with_reducible exact slices_Contains_int_int.mono _ _ _)
   | (with_reducible exact LeO.refl _)
   | (with_reducible exact LeO.none _)
   | (with_reducible refine LeO.ite ?_ ?_)
   | (with_reducible refine LeO.bind ?_ (fun _ => ?_))
   | exact ih0 _ _ _ _ _ _ _
   | exact ih1 _ _ _ _ _ _ _ _ _ _
   | exact ih2 _ _ _ _ _ _ _ _ _ _ _ _
   | exact impl_triangles.mono _ _ _
   | exact slices_Contains_int_int.mono _ _ _
   | exact LeO.none _
   | refine LeO.ite ?_ ?_
   | refine LeO.bind ?_ (fun _ => ?_)
set_option maxHeartbeats 8000000 in
set_option maxRecDepth 100000 in
theorem impl_otherOf.calls (k : Nat) (a0 : Int) (A1 : Option Addr) (c1 : Nat) (l1 : List (S49)) (a2_0 : Int) (a2_1 : Int) (r1 : Int) (r2 : Int) (w : World) (hr1 : Kd.C k49 w A1 l1.length l1) (hc1 : l1.length ≤ c1) (h : impl_otherOf.f k a0 l1 a2_0 a2_1 = some (r1, r2)) :
  Calls Tryd.prog 54 #[.int .i64 a0, .slice A1 l1.length c1, .agg #[.int .i64 a2_0, .int .i64 a2_1]] w fun e w' => e = .returned (.agg #[.int .i64 r1, .int .i64 r2]) ∧ Below w.heap.size w w' := by
 have hu49 := Tryd.underlying49
 have HR1 := Aside0.mk hr1
 have HC1 := Aside0.mk hc1
 clear hr1 hc1
 have HB := Aside0.mk (Below.refl w.heap.size w)
 have H : ((impl_triangles.f k a0 l1).bind fun t309 => (impl_otherOf.l0 k (-1) (-1) t309 (t309.length : Int) 0 a2_0 a2_1)) = some (r1, r2) := h
 clear h
 replace H := Option.bind_eq_some_iff.mp H
 obtain ⟨t309, A40, H⟩ := H
 replace H : (impl_otherOf.l0 k (-1) (-1) t309 (t309.length : Int) 0 a2_0 a2_1) = some (r1, r2) := H
 have A4 := Aside0.mk A40
 clear A40
 have H' := Aside0.mk H
 clear H
 go_enter Tryd.func54, Tryd.ntmps54
 go_wp2_with (first | ((with_reducible refine gate_dst (N := 5) rfl ?_); refine bxe_ 5 #[.int .i64 a2_0, .int .i64 a2_1] 49 ?_; intro gb307 hg w5 hbox hb; have BK307 := Aside0.mk (hbox); have GW307 := gz_ w hg; have GE307 := gz_ w hg; replace HB := Aside0.mk (below_step blw_ hb); clear hb hbox hg) | ((with_reducible refine gate_dst (N := 6) rfl ?_); refine bxe_ 6 #[.int .i64 0, .int .i64 0] 49 ?_; intro gb308 hg w6 hbox hb; have BK308 := Aside0.mk (hbox); have GW308 := gz_ w hg; have GE308 := gz_ w hg; have NB307_308 := nb_ BK307 hg; have NB308_307 := nbr_ BK307 hg; replace BK307 := bb_ BK307 hb; replace HB := Aside0.mk (below_step bls_ hb); clear hb hbox hg) | ((with_reducible refine gate_callee (f := 71) rfl ?_); refine goesL_ (some 15) rfl rfl Tryd.func71 (by kernel_rfl) rfl #[.int .i64 a0, .slice A1 l1.length c1] rfl amp_ ?_; (with_reducible refine (impl_triangles.calls k a0 _ _ l1 t309 _ ?side1 ?side2 A4.out).mono ?_); (case side1 => exact cd_ (Kd.C_below HR1.out HB.out)); (case side2 => exact HC1.out); rintro e w7 ⟨v310, rfl, ho0, hb⟩; refine ⟨_, rfl, ?_⟩; have HO311 := Aside0.mk (Kd.S_lower ho0 (below_size bls_)); replace BK307 := bb_ BK307 hb; replace BK308 := bb_ BK308 hb; replace HB := Aside0.mk (below_step bls_ hb); (try clear hb); (try clear hb2); (try clear hk); (try clear hi); (try clear ho0); obtain ⟨Ao8, co8, eo8⟩ := Kd.S_slice HO311.out; subst eo8))
 go_loopg [7, 8, 17] k (fun kq v7 v8 v17 w' => ∃ (x7_1 : Int) (x8_1 : Int) (x17_1 : Int), v7 = .int .i64 x7_1 ∧ v8 = .int .i64 x8_1 ∧ v17 = .int .i64 x17_1 ∧ Aside0 (impl_otherOf.l0 kq x7_1 x8_1 t309 (t309.length : Int) x17_1 a2_0 a2_1 = some (r1, r2)) ∧ Aside0 (kq ≤ k) ∧ Aside0 (Kd.S (Kd.slice 3 (Kd.int .i64)) 41 w' w.heap.size (fun _ => True) (.slice Ao8 t309.length co8) t309) ∧ Aside0 (w'.heap[gb307]? = some (.cells #[.int .i64 a2_0, .int .i64 a2_1] 49 (0, 0))) ∧ Aside0 (w'.heap[gb308]? = some (.cells #[.int .i64 0, .int .i64 0] 49 (0, 0))) ∧ Aside0 (Below w.heap.size w w'))
 case atStart => exact ⟨((-1)), ((-1)), (0), rsd_, rsd_, rsd_, H', ⟨Nat.le_refl _⟩, ⟨sa_ HO311.out⟩, ⟨bk_ BK307.out⟩, ⟨bk_ BK308.out⟩, ⟨bls_⟩⟩
 case round =>
  clear H'
  try clear c1
  try clear p2
  try clear c5
  try clear c7
  try clear HO_15
  obtain ⟨x7_1, x8_1, x17_1, rfl, rfl, rfl, HA, HK1, HO_15, BK307, BK308, HB⟩ := hrel
  cases gk with
  | zero => exact absurd HA.out (by simp [impl_otherOf.l0])
  | succ k1 =>
   have H := HA.out
   clear HA
   simp only [impl_otherOf.l0] at H
   by_cases c9 : x17_1 < (t309.length : Int)
   ·rw [if_pos c9] at H
    have c9b0 : decide (x17_1 < (t309.length : Int)) = true := decide_eq_true c9
    clear c9
    by_cases c10 : 0 ≤ x17_1
    case neg=>rw [if_neg c10] at H;exact absurd H (by simp)
    rw [if_pos c10] at H
    have c10b0 : decide (0 ≤ x17_1) = true := decide_eq_true c10
    clear c10
    by_cases c11 : x17_1 < (t309.length : Int)
    case neg=>rw [if_neg c11] at H;exact absurd H (by simp)
    rw [if_pos c11] at H
    have c11b0 : decide (x17_1 < (t309.length : Int)) = true := decide_eq_true c11
    clear c11
    replace H := Option.bind_eq_some_iff.mp H
    obtain ⟨t313, A120, H⟩ := H
    replace H : (if t313 = true then ((slices_Contains_int_int.f k1 (rd_L5 t309 x17_1) a2_1).bind fun t314 => (if t314 = true then (impl_otherOf.l1 k1 x7_1 x8_1 t309 (t309.length : Int) x17_1 (rd_L5 t309 x17_1) ((rd_L5 t309 x17_1).length : Int) 0 a2_0 a2_1) else (impl_otherOf.l0 k1 x7_1 x8_1 t309 (t309.length : Int) (wrap64 (x17_1 + 1)) a2_0 a2_1))) else (impl_otherOf.l0 k1 x7_1 x8_1 t309 (t309.length : Int) (wrap64 (x17_1 + 1)) a2_0 a2_1)) = some (r1, r2) := H
    have A12 := Aside0.mk A120
    clear A120
    by_cases c13 : t313 = true
    ·subst c13
     replace H : ((slices_Contains_int_int.f k1 (rd_L5 t309 x17_1) a2_1).bind fun t314 => (if t314 = true then (impl_otherOf.l1 k1 x7_1 x8_1 t309 (t309.length : Int) x17_1 (rd_L5 t309 x17_1) ((rd_L5 t309 x17_1).length : Int) 0 a2_0 a2_1) else (impl_otherOf.l0 k1 x7_1 x8_1 t309 (t309.length : Int) (wrap64 (x17_1 + 1)) a2_0 a2_1))) = some (r1, r2) := by rw [if_pos rfl] at H; exact H
     replace H := Option.bind_eq_some_iff.mp H
     obtain ⟨t314, A140, H⟩ := H
     replace H : (if t314 = true then (impl_otherOf.l1 k1 x7_1 x8_1 t309 (t309.length : Int) x17_1 (rd_L5 t309 x17_1) ((rd_L5 t309 x17_1).length : Int) 0 a2_0 a2_1) else (impl_otherOf.l0 k1 x7_1 x8_1 t309 (t309.length : Int) (wrap64 (x17_1 + 1)) a2_0 a2_1)) = some (r1, r2) := H
     have A14 := Aside0.mk A140
     clear A140
     by_cases c15 : t314 = true
     ·subst c15
      replace H : (impl_otherOf.l1 k1 x7_1 x8_1 t309 (t309.length : Int) x17_1 (rd_L5 t309 x17_1) ((rd_L5 t309 x17_1).length : Int) 0 a2_0 a2_1) = some (r1, r2) := by rw [if_pos rfl] at H; exact H
      have H' := Aside0.mk H
      clear H
      have p312 : 0 ≤ (x17_1 : Int) := odt_
      have q312 : x17_1 < (t309.length : Int) := odt_
      obtain ⟨ad312, A312_0, c312_0, e312, hx312_0, hl312_0, hi312_0⟩ := at_L5 (Kd.S_reads' HO_15.out).2.2 x17_1 p312 q312
      cases e312
      obtain ⟨ce312, hce312, hMe312, hcc312⟩ := Kd.S_get HO_15.out [] x17_1 p312 (by first | exact q312 | exact odt_ | (have e_ := (Kd.S_reads' HO_15.out).1; omega))
      obtain ⟨ve312_0, rfl, ge312_0⟩ := hMe312
      have hv312_0 := hcc312 0 _ rfl
      rw [Nat.add_zero, show ((Kd.slice 3 (Kd.int .i64))).sz = 1 from rfl, Nat.mul_one] at hv312_0
      replace hv312_0 := Option.some.inj (hv312_0.symm.trans hx312_0)
      rw [hv312_0] at ge312_0
      have HL312_0 := Aside0.mk (show Kd.R (Kd.int .i64) 3 _ _ _ _ (rd_L5 t309 x17_1) from ge312_0)
      clear hv312_0 ge312_0
      clear hcc312 hce312
      have HR312_0 := Aside0.mk hi312_0
      have HC312_0 := Aside0.mk hl312_0
      clear hi312_0 hl312_0
      replace p312 := eq_true p312
      replace q312 := eq_true q312
      have hnb16 := NB307_308.out
      have hnc16 := NB308_307.out
      have hcz17_0 := blc_ (.int .i64 a2_0) BK307 0
      have hcz17_1 := blc_ (.int .i64 a2_1) BK307 1
      have hfz17_0 := blk_frozen BK307.out 0
      have hfz17_1 := blk_frozen BK307.out 1
      go_wp2_with (first | ((with_reducible refine gate_callee (f := 72) rfl ?_); refine goesL_ (some 24) rfl rfl Tryd.func72 (by kernel_rfl) rfl #[.slice A312_0 (rd_L5 t309 x17_1).length c312_0, .int .i64 a2_0] rfl amp_ ?_; (with_reducible refine (slices_Contains_int_int.calls k1 _ _ (rd_L5 t309 x17_1) a2_0 true _ ?side1 ?side2 A12.out).mono ?_); (case side1 => repeat (first | exact (by repeat (first | (with_reducible exact HR312_0.out) | (with_reducible refine Kd.C_alloc ?_ _) | (with_reducible refine Kd.C_drewN ?_ _) | (with_reducible refine Kd.C_drew ?_) | exact HR312_0.out)) | (with_reducible refine Kd.C_alloc ?_ _) | (with_reducible refine Kd.C_drewN ?_ _) | (with_reducible refine Kd.C_drew ?_))); (case side2 => exact HC312_0.out); rintro e w' ⟨rfl, ⟨nd, rfl⟩⟩; refine ⟨_, rfl, ?_⟩) | (go_at_call 72; (with_reducible refine (slices_Contains_int_int.calls k1 _ _ (rd_L5 t309 x17_1) a2_1 true _ ?side1 ?side2 A14.out).mono ?_); (case side1 => repeat (first | exact (by repeat (first | (with_reducible exact HR312_0.out) | (with_reducible refine Kd.C_alloc ?_ _) | (with_reducible refine Kd.C_drewN ?_ _) | (with_reducible refine Kd.C_drew ?_) | exact HR312_0.out)) | (with_reducible refine Kd.C_alloc ?_ _) | (with_reducible refine Kd.C_drewN ?_ _) | (with_reducible refine Kd.C_drew ?_))); (case side2 => exact HC312_0.out); rintro e w' ⟨rfl, ⟨nd, rfl⟩⟩))
      go_loopg [7, 8, 35] k1 (fun kq v7 v8 v35 w' => ∃ (x7_2 : Int) (x8_2 : Int) (x35_2 : Int), v7 = .int .i64 x7_2 ∧ v8 = .int .i64 x8_2 ∧ v35 = .int .i64 x35_2 ∧ Aside0 (impl_otherOf.l1 kq x7_2 x8_2 t309 (t309.length : Int) x17_1 (rd_L5 t309 x17_1) ((rd_L5 t309 x17_1).length : Int) x35_2 a2_0 a2_1 = some (r1, r2)) ∧ Aside0 (kq ≤ k1) ∧ Aside0 (Kd.S (Kd.slice 3 (Kd.int .i64)) 41 w' w.heap.size (fun _ => True) (.slice (some ad312) t309.length co8) t309) ∧ Aside0 (w'.heap[gb307]? = some (.cells #[.int .i64 a2_0, .int .i64 a2_1] 49 (0, 0))) ∧ Aside0 (w'.heap[gb308]? = some (.cells #[.int .i64 0, .int .i64 0] 49 (0, 0))) ∧ Aside0 (Kd.C (Kd.int .i64) w' A312_0 (rd_L5 t309 x17_1).length (rd_L5 t309 x17_1)) ∧ Aside0 (Below w.heap.size w w'))
      case atStart => exact ⟨(x7_1), (x8_1), (0), rsd_, rsd_, rsd_, H', ⟨Nat.le_refl _⟩, ⟨sa_ HO_15.out⟩, ⟨bk_ BK307.out⟩, ⟨bk_ BK308.out⟩, ⟨by repeat (first | (with_reducible exact HR312_0.out) | (with_reducible refine Kd.C_alloc ?_ _) | (with_reducible refine Kd.C_drewN ?_ _) | (with_reducible refine Kd.C_drew ?_) | exact HR312_0.out)⟩, ⟨bls_⟩⟩
      case round =>
       clear H'
       try clear c1
       try clear p2
       try clear c3
       try clear p3
       try clear q3
       try clear hx3
       try clear c5
       try clear p6
       try clear c7
       try clear c9
       try clear c9b0
       try clear c10
       try clear c10b0
       try clear c11
       try clear c11b0
       try clear c13
       try clear c15
       try clear c16
       try clear hcz17_0
       try clear hcz17_1
       try clear hfz17_0
       try clear hfz17_1
       try clear hx312_0
       try clear p2
       try clear p312
       try clear q312
       try clear HO_15
       obtain ⟨x7_2, x8_2, x35_2, rfl, rfl, rfl, HA, HK2, HO_15, BK307, BK308, HR312_0, HB⟩ := hrel
       cases gk with
       | zero => exact absurd HA.out (by simp [impl_otherOf.l1])
       | succ k2 =>
        have H := HA.out
        clear HA
        simp only [impl_otherOf.l1] at H
        by_cases c18 : x35_2 < ((rd_L5 t309 x17_1).length : Int)
        ·rw [if_pos c18] at H
         have c18b0 : decide (x35_2 < ((rd_L5 t309 x17_1).length : Int)) = true := decide_eq_true c18
         clear c18
         by_cases c19 : 0 ≤ x35_2
         case neg=>rw [if_neg c19] at H;exact absurd H (by simp)
         rw [if_pos c19] at H
         have c19b0 : decide (0 ≤ x35_2) = true := decide_eq_true c19
         clear c19
         by_cases c20 : x35_2 < ((rd_L5 t309 x17_1).length : Int)
         case neg=>rw [if_neg c20] at H;exact absurd H (by simp)
         rw [if_pos c20] at H
         have c20b0 : decide (x35_2 < ((rd_L5 t309 x17_1).length : Int)) = true := decide_eq_true c20
         clear c20
         have HC21 := Aside0.mk H
         clear H
         have p315 : 0 ≤ (x35_2 : Int) := odt_
         have q315 : x35_2 < ((rd_L5 t309 x17_1).length : Int) := odt_
         obtain ⟨ad315, e315, hx315_0⟩ := Kd.at_int HR312_0.out x35_2 p315 q315
         cases e315
         (first | replace hx315_0 := (HB.out.cell (World.block_lt_of_cell? w _ hx315_0)).trans hx315_0 | skip)
         replace p315 := eq_true p315
         replace q315 := eq_true q315
         go_upto_region 10 with (fail)
         go_cut [40] (fun v40 wc => ∃ (kq : Nat) (x40_20 : Bool), v40 = .bool x40_20 ∧ Aside0 (impl_otherOf.j2 kq x7_2 x8_2 (rd (rd_L5 t309 x17_1) x35_2) t309 (t309.length : Int) x17_1 (rd_L5 t309 x17_1) ((rd_L5 t309 x17_1).length : Int) x35_2 x40_20 a2_0 a2_1 = some (r1, r2)) ∧ Aside0 (kq ≤ k2) ∧ Aside0 (Kd.S (Kd.slice 3 (Kd.int .i64)) 41 wc w.heap.size (fun _ => True) (.slice (some ad312) t309.length co8) t309) ∧ Aside0 (wc.heap[gb307]? = some (.cells #[.int .i64 a2_0, .int .i64 a2_1] 49 (0, 0))) ∧ Aside0 (wc.heap[gb308]? = some (.cells #[.int .i64 0, .int .i64 0] 49 (0, 0))) ∧ Aside0 (Kd.C (Kd.int .i64) wc (some ad315) (rd_L5 t309 x17_1).length (rd_L5 t309 x17_1)) ∧ Aside0 (Below w.heap.size w wc))
         case first =>
          have H := HC21.out
          clear HC21
          by_cases c22 : (rd (rd_L5 t309 x17_1) x35_2) = a2_0
          ·rw [if_pos c22] at H
           have c22b0 : ((rd (rd_L5 t309 x17_1) x35_2) == a2_0) = true := beq_iff_eq.mpr c22
           have c22b1 : ((rd (rd_L5 t309 x17_1) x35_2) != a2_0) = false := bne_eq_false_iff_eq.mpr c22
           clear c22
           (first | rw [c22b0] | (simp only [i64_w, i32_w]; rw [c22b0]) | skip)
           have H' := Aside0.mk H
           clear H
           have hnb23 := NB307_308.out
           have hnc23 := NB308_307.out
           have hcz24_0 := blc_ (.int .i64 a2_0) BK307 0
           have hcz24_1 := blc_ (.int .i64 a2_1) BK307 1
           have hfz24_0 := blk_frozen BK307.out 0
           have hfz24_1 := blk_frozen BK307.out 1
           go_wp2
           go_meet
           case rel => exact ⟨_, (true), rsd_, H', ⟨by have := HK1.out; have := HK2.out; first | omega | exact Nat.le_refl _⟩, ⟨sa_ HO_15.out⟩, ⟨bk_ BK307.out⟩, ⟨bk_ BK308.out⟩, ⟨by repeat (first | (with_reducible exact HR312_0.out) | (with_reducible refine Kd.C_alloc ?_ _) | (with_reducible refine Kd.C_drewN ?_ _) | (with_reducible refine Kd.C_drew ?_) | exact HR312_0.out)⟩, ⟨bls_⟩⟩
          ·rw [if_neg c22] at H
           have c22b0 : ((rd (rd_L5 t309 x17_1) x35_2) == a2_0) = false := beq_eq_false_iff_ne.mpr c22
           have c22b1 : ((rd (rd_L5 t309 x17_1) x35_2) != a2_0) = true := bne_iff_ne.mpr c22
           (first | rw [c22b0] | (simp only [i64_w, i32_w]; rw [c22b0]) | skip)
           have H' := Aside0.mk H
           clear H
           have hnb25 := NB307_308.out
           have hnc25 := NB308_307.out
           have hcz26_0 := blc_ (.int .i64 a2_0) BK307 0
           have hcz26_1 := blc_ (.int .i64 a2_1) BK307 1
           have hfz26_0 := blk_frozen BK307.out 0
           have hfz26_1 := blk_frozen BK307.out 1
           go_wp2
           go_meet
           case rel => exact ⟨_, (((rd (rd_L5 t309 x17_1) x35_2) == a2_1)), rsd_, H', ⟨by have := HK1.out; have := HK2.out; first | omega | exact Nat.le_refl _⟩, ⟨sa_ HO_15.out⟩, ⟨bk_ BK307.out⟩, ⟨bk_ BK308.out⟩, ⟨by repeat (first | (with_reducible exact HR312_0.out) | (with_reducible refine Kd.C_alloc ?_ _) | (with_reducible refine Kd.C_drewN ?_ _) | (with_reducible refine Kd.C_drew ?_) | exact HR312_0.out)⟩, ⟨bls_⟩⟩
         case rest =>
          clear HC21
          try clear c1
          try clear c2
          try clear p2
          try clear c3
          try clear p3
          try clear q3
          try clear hx3
          try clear c5
          try clear p6
          try clear c7
          try clear c9
          try clear c9b0
          try clear c10
          try clear c10b0
          try clear c11
          try clear c11b0
          try clear c13
          try clear c15
          try clear c16
          try clear c18
          try clear c18b0
          try clear c19
          try clear c19b0
          try clear c20
          try clear c20b0
          try clear c22
          try clear c22b0
          try clear c22b1
          try clear c23
          try clear c25
          try clear hcz17_0
          try clear hcz17_1
          try clear hcz24_0
          try clear hcz24_1
          try clear hcz26_0
          try clear hcz26_1
          try clear hfz17_0
          try clear hfz17_1
          try clear hfz24_0
          try clear hfz24_1
          try clear hfz26_0
          try clear hfz26_1
          try clear hx312_0
          try clear hx315_0
          try clear p2
          try clear p3
          try clear p312
          try clear p315
          try clear p6
          try clear q3
          try clear q312
          try clear q315
          obtain ⟨kq, x40_20, rfl, HA, HJ20, HO_15, BK307, BK308, HR312_0, HB⟩ := hcut
          cases kq with
          | zero => exact absurd HA.out (by simp [impl_otherOf.j2])
          | succ kj20 =>
           have H := HA.out
           clear HA
           simp only [impl_otherOf.j2] at H
           by_cases c27 : x40_20 = true
           ·subst c27
            replace H : (impl_otherOf.l1 kj20 x7_2 x8_2 t309 (t309.length : Int) x17_1 (rd_L5 t309 x17_1) ((rd_L5 t309 x17_1).length : Int) (wrap64 (x35_2 + 1)) a2_0 a2_1) = some (r1, r2) := by rw [if_pos rfl] at H; exact H
            have H' := Aside0.mk H
            clear H
            go_wp2
            go_roundg kj20
            case measure => have := HK1.out; have := HK2.out; have := HJ20.out; omega
            case rel => exact ⟨(x7_2), (x8_2), (wrap64 (x35_2 + 1)), rsd_, rsd_, rsd_, H', ⟨by have := HK1.out; have := HK2.out; have := HJ20.out; omega⟩, ⟨sa_ HO_15.out⟩, ⟨bk_ BK307.out⟩, ⟨bk_ BK308.out⟩, ⟨by repeat (first | (with_reducible exact HR312_0.out) | (with_reducible refine Kd.C_alloc ?_ _) | (with_reducible refine Kd.C_drewN ?_ _) | (with_reducible refine Kd.C_drew ?_) | exact HR312_0.out)⟩, ⟨bls_⟩⟩
           ·replace c27 := Bool.eq_false_iff.mpr c27
            subst c27
            replace H : ((impl_within.f (rd (rd_L5 t309 x17_1) x35_2) a2_0 a2_1).bind fun t316 => (if t316 = true then (impl_otherOf.l1 kj20 (rd (rd_L5 t309 x17_1) x35_2) x8_2 t309 (t309.length : Int) x17_1 (rd_L5 t309 x17_1) ((rd_L5 t309 x17_1).length : Int) (wrap64 (x35_2 + 1)) a2_0 a2_1) else (impl_otherOf.l1 kj20 x7_2 (rd (rd_L5 t309 x17_1) x35_2) t309 (t309.length : Int) x17_1 (rd_L5 t309 x17_1) ((rd_L5 t309 x17_1).length : Int) (wrap64 (x35_2 + 1)) a2_0 a2_1))) = some (r1, r2) := by rw [if_neg (show ¬ (false = true) by decide)] at H; exact H
            replace H := Option.bind_eq_some_iff.mp H
            obtain ⟨t316, A280, H⟩ := H
            replace H : (if t316 = true then (impl_otherOf.l1 kj20 (rd (rd_L5 t309 x17_1) x35_2) x8_2 t309 (t309.length : Int) x17_1 (rd_L5 t309 x17_1) ((rd_L5 t309 x17_1).length : Int) (wrap64 (x35_2 + 1)) a2_0 a2_1) else (impl_otherOf.l1 kj20 x7_2 (rd (rd_L5 t309 x17_1) x35_2) t309 (t309.length : Int) x17_1 (rd_L5 t309 x17_1) ((rd_L5 t309 x17_1).length : Int) (wrap64 (x35_2 + 1)) a2_0 a2_1)) = some (r1, r2) := H
            have A28 := Aside0.mk A280
            clear A280
            by_cases c29 : t316 = true
            ·subst c29
             replace H : (impl_otherOf.l1 kj20 (rd (rd_L5 t309 x17_1) x35_2) x8_2 t309 (t309.length : Int) x17_1 (rd_L5 t309 x17_1) ((rd_L5 t309 x17_1).length : Int) (wrap64 (x35_2 + 1)) a2_0 a2_1) = some (r1, r2) := by rw [if_pos rfl] at H; exact H
             have H' := Aside0.mk H
             clear H
             have hnb30 := NB307_308.out
             have hnc30 := NB308_307.out
             have hcz31_0 := blc_ (.int .i64 a2_0) BK307 0
             have hcz31_1 := blc_ (.int .i64 a2_1) BK307 1
             have hfz31_0 := blk_frozen BK307.out 0
             have hfz31_1 := blk_frozen BK307.out 1
             go_wp2_with (first | ((with_reducible refine gate_callee (f := 24) rfl ?_); refine goesL_ (some 57) rfl rfl Tryd.func24 (by kernel_rfl) rfl #[.int .i64 (rd (rd_L5 t309 x17_1) x35_2), .int .i64 a2_0, .int .i64 a2_1] rfl amp_ ?_; (with_reducible refine (impl_within.calls (rd (rd_L5 t309 x17_1) x35_2) a2_0 a2_1 true _ A28.out).mono ?_); rintro e w' ⟨rfl, ⟨nd, rfl⟩⟩; refine ⟨_, rfl, ?_⟩))
             go_roundg kj20
             case measure => have := HK1.out; have := HK2.out; have := HJ20.out; omega
             case rel => exact ⟨((rd (rd_L5 t309 x17_1) x35_2)), (x8_2), (wrap64 (x35_2 + 1)), rsd_, rsd_, rsd_, H', ⟨by have := HK1.out; have := HK2.out; have := HJ20.out; omega⟩, ⟨sa_ HO_15.out⟩, ⟨bk_ BK307.out⟩, ⟨bk_ BK308.out⟩, ⟨by repeat (first | (with_reducible exact HR312_0.out) | (with_reducible refine Kd.C_alloc ?_ _) | (with_reducible refine Kd.C_drewN ?_ _) | (with_reducible refine Kd.C_drew ?_) | exact HR312_0.out)⟩, ⟨bls_⟩⟩
            ·replace c29 := Bool.eq_false_iff.mpr c29
             subst c29
             replace H : (impl_otherOf.l1 kj20 x7_2 (rd (rd_L5 t309 x17_1) x35_2) t309 (t309.length : Int) x17_1 (rd_L5 t309 x17_1) ((rd_L5 t309 x17_1).length : Int) (wrap64 (x35_2 + 1)) a2_0 a2_1) = some (r1, r2) := by rw [if_neg (show ¬ (false = true) by decide)] at H; exact H
             have H' := Aside0.mk H
             clear H
             have hnb32 := NB307_308.out
             have hnc32 := NB308_307.out
             have hcz33_0 := blc_ (.int .i64 a2_0) BK307 0
             have hcz33_1 := blc_ (.int .i64 a2_1) BK307 1
             have hfz33_0 := blk_frozen BK307.out 0
             have hfz33_1 := blk_frozen BK307.out 1
             go_wp2_with (first | ((with_reducible refine gate_callee (f := 24) rfl ?_); refine goesL_ (some 57) rfl rfl Tryd.func24 (by kernel_rfl) rfl #[.int .i64 (rd (rd_L5 t309 x17_1) x35_2), .int .i64 a2_0, .int .i64 a2_1] rfl amp_ ?_; (with_reducible refine (impl_within.calls (rd (rd_L5 t309 x17_1) x35_2) a2_0 a2_1 false _ A28.out).mono ?_); rintro e w' ⟨rfl, ⟨nd, rfl⟩⟩; refine ⟨_, rfl, ?_⟩))
             go_roundg kj20
             case measure => have := HK1.out; have := HK2.out; have := HJ20.out; omega
             case rel => exact ⟨(x7_2), ((rd (rd_L5 t309 x17_1) x35_2)), (wrap64 (x35_2 + 1)), rsd_, rsd_, rsd_, H', ⟨by have := HK1.out; have := HK2.out; have := HJ20.out; omega⟩, ⟨sa_ HO_15.out⟩, ⟨bk_ BK307.out⟩, ⟨bk_ BK308.out⟩, ⟨by repeat (first | (with_reducible exact HR312_0.out) | (with_reducible refine Kd.C_alloc ?_ _) | (with_reducible refine Kd.C_drewN ?_ _) | (with_reducible refine Kd.C_drew ?_) | exact HR312_0.out)⟩, ⟨bls_⟩⟩
        ·rw [if_neg c18] at H
         have c18b0 : decide (x35_2 < ((rd_L5 t309 x17_1).length : Int)) = false := decide_eq_false c18
         clear c18
         have H' := Aside0.mk H
         clear H
         go_wp2
         go_roundg k2
         case measure => have := HK1.out; have := HK2.out; omega
         case rel => exact ⟨(x7_2), (x8_2), (wrap64 (x17_1 + 1)), rsd_, rsd_, rsd_, H', ⟨by have := HK1.out; have := HK2.out; omega⟩, ⟨sa_ HO_15.out⟩, ⟨bk_ BK307.out⟩, ⟨bk_ BK308.out⟩, ⟨bls_⟩⟩
     ·replace c15 := Bool.eq_false_iff.mpr c15
      subst c15
      replace H : (impl_otherOf.l0 k1 x7_1 x8_1 t309 (t309.length : Int) (wrap64 (x17_1 + 1)) a2_0 a2_1) = some (r1, r2) := by rw [if_neg (show ¬ (false = true) by decide)] at H; exact H
      have H' := Aside0.mk H
      clear H
      have p312 : 0 ≤ (x17_1 : Int) := odt_
      have q312 : x17_1 < (t309.length : Int) := odt_
      obtain ⟨ad312, A312_0, c312_0, e312, hx312_0, hl312_0, hi312_0⟩ := at_L5 (Kd.S_reads' HO_15.out).2.2 x17_1 p312 q312
      cases e312
      obtain ⟨ce312, hce312, hMe312, hcc312⟩ := Kd.S_get HO_15.out [] x17_1 p312 (by first | exact q312 | exact odt_ | (have e_ := (Kd.S_reads' HO_15.out).1; omega))
      obtain ⟨ve312_0, rfl, ge312_0⟩ := hMe312
      have hv312_0 := hcc312 0 _ rfl
      rw [Nat.add_zero, show ((Kd.slice 3 (Kd.int .i64))).sz = 1 from rfl, Nat.mul_one] at hv312_0
      replace hv312_0 := Option.some.inj (hv312_0.symm.trans hx312_0)
      rw [hv312_0] at ge312_0
      have HL312_0 := Aside0.mk (show Kd.R (Kd.int .i64) 3 _ _ _ _ (rd_L5 t309 x17_1) from ge312_0)
      clear hv312_0 ge312_0
      clear hcc312 hce312
      have HR312_0 := Aside0.mk hi312_0
      have HC312_0 := Aside0.mk hl312_0
      clear hi312_0 hl312_0
      replace p312 := eq_true p312
      replace q312 := eq_true q312
      have hnb34 := NB307_308.out
      have hnc34 := NB308_307.out
      have hcz35_0 := blc_ (.int .i64 a2_0) BK307 0
      have hcz35_1 := blc_ (.int .i64 a2_1) BK307 1
      have hfz35_0 := blk_frozen BK307.out 0
      have hfz35_1 := blk_frozen BK307.out 1
      go_wp2_with (first | ((with_reducible refine gate_callee (f := 72) rfl ?_); refine goesL_ (some 24) rfl rfl Tryd.func72 (by kernel_rfl) rfl #[.slice A312_0 (rd_L5 t309 x17_1).length c312_0, .int .i64 a2_0] rfl amp_ ?_; (with_reducible refine (slices_Contains_int_int.calls k1 _ _ (rd_L5 t309 x17_1) a2_0 true _ ?side1 ?side2 A12.out).mono ?_); (case side1 => repeat (first | exact (by repeat (first | (with_reducible exact HR312_0.out) | (with_reducible refine Kd.C_alloc ?_ _) | (with_reducible refine Kd.C_drewN ?_ _) | (with_reducible refine Kd.C_drew ?_) | exact HR312_0.out)) | (with_reducible refine Kd.C_alloc ?_ _) | (with_reducible refine Kd.C_drewN ?_ _) | (with_reducible refine Kd.C_drew ?_))); (case side2 => exact HC312_0.out); rintro e w' ⟨rfl, ⟨nd, rfl⟩⟩; refine ⟨_, rfl, ?_⟩) | (go_at_call 72; (with_reducible refine (slices_Contains_int_int.calls k1 _ _ (rd_L5 t309 x17_1) a2_1 false _ ?side1 ?side2 A14.out).mono ?_); (case side1 => repeat (first | exact (by repeat (first | (with_reducible exact HR312_0.out) | (with_reducible refine Kd.C_alloc ?_ _) | (with_reducible refine Kd.C_drewN ?_ _) | (with_reducible refine Kd.C_drew ?_) | exact HR312_0.out)) | (with_reducible refine Kd.C_alloc ?_ _) | (with_reducible refine Kd.C_drewN ?_ _) | (with_reducible refine Kd.C_drew ?_))); (case side2 => exact HC312_0.out); rintro e w' ⟨rfl, ⟨nd, rfl⟩⟩))
      go_roundg k1
      case measure => have := HK1.out; omega
      case rel => exact ⟨(x7_1), (x8_1), (wrap64 (x17_1 + 1)), rsd_, rsd_, rsd_, H', ⟨by have := HK1.out; omega⟩, ⟨sa_ HO_15.out⟩, ⟨bk_ BK307.out⟩, ⟨bk_ BK308.out⟩, ⟨bls_⟩⟩
    ·replace c13 := Bool.eq_false_iff.mpr c13
     subst c13
     replace H : (impl_otherOf.l0 k1 x7_1 x8_1 t309 (t309.length : Int) (wrap64 (x17_1 + 1)) a2_0 a2_1) = some (r1, r2) := by rw [if_neg (show ¬ (false = true) by decide)] at H; exact H
     have H' := Aside0.mk H
     clear H
     have p312 : 0 ≤ (x17_1 : Int) := odt_
     have q312 : x17_1 < (t309.length : Int) := odt_
     obtain ⟨ad312, A312_0, c312_0, e312, hx312_0, hl312_0, hi312_0⟩ := at_L5 (Kd.S_reads' HO_15.out).2.2 x17_1 p312 q312
     cases e312
     obtain ⟨ce312, hce312, hMe312, hcc312⟩ := Kd.S_get HO_15.out [] x17_1 p312 (by first | exact q312 | exact odt_ | (have e_ := (Kd.S_reads' HO_15.out).1; omega))
     obtain ⟨ve312_0, rfl, ge312_0⟩ := hMe312
     have hv312_0 := hcc312 0 _ rfl
     rw [Nat.add_zero, show ((Kd.slice 3 (Kd.int .i64))).sz = 1 from rfl, Nat.mul_one] at hv312_0
     replace hv312_0 := Option.some.inj (hv312_0.symm.trans hx312_0)
     rw [hv312_0] at ge312_0
     have HL312_0 := Aside0.mk (show Kd.R (Kd.int .i64) 3 _ _ _ _ (rd_L5 t309 x17_1) from ge312_0)
     clear hv312_0 ge312_0
     clear hcc312 hce312
     have HR312_0 := Aside0.mk hi312_0
     have HC312_0 := Aside0.mk hl312_0
     clear hi312_0 hl312_0
     replace p312 := eq_true p312
     replace q312 := eq_true q312
     have hnb36 := NB307_308.out
     have hnc36 := NB308_307.out
     have hcz37_0 := blc_ (.int .i64 a2_0) BK307 0
     have hcz37_1 := blc_ (.int .i64 a2_1) BK307 1
     have hfz37_0 := blk_frozen BK307.out 0
     have hfz37_1 := blk_frozen BK307.out 1
     go_wp2_with (first | ((with_reducible refine gate_callee (f := 72) rfl ?_); refine goesL_ (some 24) rfl rfl Tryd.func72 (by kernel_rfl) rfl #[.slice A312_0 (rd_L5 t309 x17_1).length c312_0, .int .i64 a2_0] rfl amp_ ?_; (with_reducible refine (slices_Contains_int_int.calls k1 _ _ (rd_L5 t309 x17_1) a2_0 false _ ?side1 ?side2 A12.out).mono ?_); (case side1 => repeat (first | exact (by repeat (first | (with_reducible exact HR312_0.out) | (with_reducible refine Kd.C_alloc ?_ _) | (with_reducible refine Kd.C_drewN ?_ _) | (with_reducible refine Kd.C_drew ?_) | exact HR312_0.out)) | (with_reducible refine Kd.C_alloc ?_ _) | (with_reducible refine Kd.C_drewN ?_ _) | (with_reducible refine Kd.C_drew ?_))); (case side2 => exact HC312_0.out); rintro e w' ⟨rfl, ⟨nd, rfl⟩⟩; refine ⟨_, rfl, ?_⟩))
     go_roundg k1
     case measure => have := HK1.out; omega
     case rel => exact ⟨(x7_1), (x8_1), (wrap64 (x17_1 + 1)), rsd_, rsd_, rsd_, H', ⟨by have := HK1.out; omega⟩, ⟨sa_ HO_15.out⟩, ⟨bk_ BK307.out⟩, ⟨bk_ BK308.out⟩, ⟨bls_⟩⟩
   ·rw [if_neg c9] at H
    have c9b0 : decide (x17_1 < (t309.length : Int)) = false := decide_eq_false c9
    clear c9
    obtain ⟨ji38, hji38⟩ : ∃ j_ : Int, (mn x7_1 x8_1) = j_ := ⟨_, rfl⟩
    replace H : (some (ji38, mx x7_1 x8_1)) = some (r1, r2) := by first | (rw [hji38] at H; exact H) | (simp only [hji38] at H ⊢; exact H)
    have hji38_ : (if x8_1 < x7_1 then x8_1 else x7_1) = ji38 := hji38
    obtain ⟨ji39, hji39⟩ : ∃ j_ : Int, (mx x7_1 x8_1) = j_ := ⟨_, rfl⟩
    replace H : (some (ji38, ji39)) = some (r1, r2) := by first | (rw [hji39] at H; exact H) | (simp only [hji39] at H ⊢; exact H)
    have hji39_ : (if x7_1 < x8_1 then x8_1 else x7_1) = ji39 := hji39
    simp only [Option.some.injEq, Prod.mk.injEq] at H
    obtain ⟨rfl, rfl⟩ := H
    have hnb40 := NB308_307.out
    have hnc40 := NB307_308.out
    have hcz41_0 := blc_ (.int .i64 0) BK308 0
    have hcz41_1 := blc_ (.int .i64 0) BK308 1
    have hfz41_0 := blk_frozen BK308.out 0
    have hfz41_1 := blk_frozen BK308.out 1
    go_wp2
    refine bodyPost_ret (results_cell_row rfl _ _ gb308 49 #[.int .i64 ji38, .int .i64 ji39] (0, 0) _ rfl (by (with_reducible repeat (first | refine blk_drewN ?_ _ | refine blk_drew ?_ | refine blk_alloc ?_ _)); refine blk_put (cs := #[.int .i64 ji38, .int .i64 0]) ?_ 1 _ rfl; (with_reducible repeat (first | refine blk_drewN ?_ _ | refine blk_drew ?_ | refine blk_alloc ?_ _)); refine blk_put (cs := #[.int .i64 0, .int .i64 0]) ?_ 0 _ rfl; (with_reducible repeat (first | refine blk_drewN ?_ _ | refine blk_drew ?_ | refine blk_alloc ?_ _)); exact BK308.out) Tryd.underlying49 rfl (by kernel_rfl)) rfl ?_
    exact ⟨by first | rfl | (simp [errW_none, errW_some] <;> rfl) | (simp only [← hji38, ← hji39]; first | rfl | (simp [errW_none, errW_some] <;> rfl)) | (simp [*, errW_none, errW_some] <;> rfl), bls_⟩

/-! ### cmp_Or_int: function 75 -/
def cmp_Or_int.l0 : Nat → Int → List Int → Int → Int → Option (Int)
 | 0, _, _, _, _ => none
 | k + 1, x3, x6, x7, x8 => if x8 < x7 then (if 0 ≤ x8 then (if x8 < (x6.length : Int) then (if (rd x6 x8) = x3 then (cmp_Or_int.l0 k x3 x6 x7 (wrap64 (x8 + 1))) else (some (rd x6 x8))) else (none)) else (none)) else (some x3)
def cmp_Or_int.f (k : Nat) (l0 : List Int) : Option (Int) := cmp_Or_int.l0 k 0 l0 (l0.length : Int) 0
theorem cmp_Or_int.mono_l : ∀ k, (∀ y0 y1 y2 y3, LeO (cmp_Or_int.l0 k y0 y1 y2 y3) (cmp_Or_int.l0 (k + 1) y0 y1 y2 y3))
 | 0 => fun _ _ _ _ r h => by simp [cmp_Or_int.l0] at h
 | k + 1 => by
  have ih0 := cmp_Or_int.mono_l k
  ·intro y0 y1 y2 y3
   unfold cmp_Or_int.l0
   repeat' first
   | (with_reducible exact ih0 _ _ _ _)
   | (with_reducible exact LeO.refl _)
   | (with_reducible exact LeO.none _)
   | (with_reducible refine LeO.ite ?_ ?_)
   | (with_reducible refine LeO.bind ?_ (fun _ => ?_))
   | exact ih0 _ _ _ _
   | exact LeO.none _
   | refine LeO.ite ?_ ?_
   | refine LeO.bind ?_ (fun _ => ?_)
theorem cmp_Or_int.mono : ∀ a0 k, LeO (cmp_Or_int.f k a0) (cmp_Or_int.f (k + 1) a0) := by
 intro a0 k
 have ih0 := cmp_Or_int.mono_l k
 unfold cmp_Or_int.f
 repeat' first
   | (with_reducible exact ih0 _ _ _ _)
   | (with_reducible exact LeO.refl _)
   | (with_reducible exact LeO.none _)
   | (with_reducible refine LeO.ite ?_ ?_)
   | (with_reducible refine LeO.bind ?_ (fun _ => ?_))
   | exact ih0 _ _ _ _
   | exact LeO.none _
   | refine LeO.ite ?_ ?_
   | refine LeO.bind ?_ (fun _ => ?_)
set_option maxHeartbeats 8000000 in
set_option maxRecDepth 100000 in
theorem cmp_Or_int.calls (k : Nat) (A0 : Option Addr) (c0 : Nat) (l0 : List Int) (r : Int) (w : World) (hr0 : Kd.C (Kd.int .i64) w A0 l0.length l0) (hc0 : l0.length ≤ c0) (h : cmp_Or_int.f k l0 = some r) :
  Calls Tryd.prog 75 #[.slice A0 l0.length c0] w fun e w' => e = .returned (.int .i64 r) ∧ Drawn0 w w' := by
 have HR0 := Aside0.mk hr0
 have HC0 := Aside0.mk hc0
 clear hr0 hc0
 have H : (cmp_Or_int.l0 k 0 l0 (l0.length : Int) 0) = some r := h
 clear h
 have H' := Aside0.mk H
 clear H
 go_enter Tryd.func75, Tryd.ntmps75
 go_wp2
 go_loopg [8] k (fun kq v8 w' => ∃ (x8_1 : Int), v8 = .int .i64 x8_1 ∧ Aside0 (cmp_Or_int.l0 kq 0 l0 (l0.length : Int) x8_1 = some r) ∧ Aside0 (kq ≤ k) ∧ Drawn0 w w')
 case atStart => exact ⟨(0), rsd_, H', ⟨Nat.le_refl _⟩, by repeat (first | exact Drawn0.refl _ | apply Drawn0.step)⟩
 case round =>
  clear H'
  obtain ⟨x8_1, rfl, HA, HK1, ⟨m1, rfl⟩⟩ := hrel
  cases gk with
  | zero => exact absurd HA.out (by simp [cmp_Or_int.l0])
  | succ k1 =>
   have H := HA.out
   clear HA
   simp only [cmp_Or_int.l0] at H
   by_cases c2 : x8_1 < (l0.length : Int)
   ·rw [if_pos c2] at H
    have c2b0 : decide (x8_1 < (l0.length : Int)) = true := decide_eq_true c2
    clear c2
    by_cases c3 : 0 ≤ x8_1
    case neg=>rw [if_neg c3] at H;exact absurd H (by simp)
    rw [if_pos c3] at H
    have c3b0 : decide (0 ≤ x8_1) = true := decide_eq_true c3
    clear c3
    by_cases c4 : x8_1 < (l0.length : Int)
    case neg=>rw [if_neg c4] at H;exact absurd H (by simp)
    rw [if_pos c4] at H
    have c4b0 : decide (x8_1 < (l0.length : Int)) = true := decide_eq_true c4
    clear c4
    by_cases c5 : (rd l0 x8_1) = 0
    ·rw [if_pos c5] at H
     have c5b0 : ((rd l0 x8_1) == 0) = true := beq_iff_eq.mpr c5
     have c5b1 : ((rd l0 x8_1) != 0) = false := bne_eq_false_iff_eq.mpr c5
     clear c5
     have H' := Aside0.mk H
     clear H
     have p317 : 0 ≤ (x8_1 : Int) := odt_
     have q317 : x8_1 < (l0.length : Int) := odt_
     obtain ⟨ad317, e317, hx317_0⟩ := Kd.at_int HR0.out x8_1 p317 q317
     cases e317
     replace p317 := eq_true p317
     replace q317 := eq_true q317
     go_wp2
     go_roundg k1
     case measure => have := HK1.out; omega
     case rel => exact ⟨(wrap64 (x8_1 + 1)), rsd_, H', ⟨by have := HK1.out; omega⟩, by repeat (first | exact Drawn0.refl _ | apply Drawn0.step)⟩
    ·rw [if_neg c5] at H
     have c5b0 : ((rd l0 x8_1) == 0) = false := beq_eq_false_iff_ne.mpr c5
     have c5b1 : ((rd l0 x8_1) != 0) = true := bne_iff_ne.mpr c5
     obtain rfl := Option.some.inj H
     have p317 : 0 ≤ (x8_1 : Int) := odt_
     have q317 : x8_1 < (l0.length : Int) := odt_
     obtain ⟨ad317, e317, hx317_0⟩ := Kd.at_int HR0.out x8_1 p317 q317
     cases e317
     replace p317 := eq_true p317
     replace q317 := eq_true q317
     go_wp2
     go_ret
     exact dr_
   ·rw [if_neg c2] at H
    have c2b0 : decide (x8_1 < (l0.length : Int)) = false := decide_eq_false c2
    clear c2
    obtain rfl := Option.some.inj H
    go_wp2
    go_ret
    exact dr_

/-! ### cmp_isNaN_int: function 92 -/
def cmp_isNaN_int.f (a0 : Int) : Option (Bool) := some (a0 != a0)
set_option maxHeartbeats 8000000 in
set_option maxRecDepth 100000 in
theorem cmp_isNaN_int.calls (a0 : Int) (r : Bool) (w : World) (h : cmp_isNaN_int.f a0 = some r) :
  Calls Tryd.prog 92 #[.int .i64 a0] w fun e w' => e = .returned (.bool r) ∧ Drawn0 w w' := by
 have H : (some (a0 != a0)) = some r := h
 clear h
 obtain rfl := Option.some.inj H
 go_enter Tryd.func92, Tryd.ntmps92
 go_wp2
 go_ret
 exact dr_

/-! ### cmp_Compare_int: function 76 -/
def cmp_Compare_int.f (a0 : Int) (a1 : Int) : Option (Int) := (cmp_isNaN_int.f a0).bind fun t318 => ((cmp_isNaN_int.f a1).bind fun t319 => (if t318 = true then (if t319 = true then (some 0) else (some (-1))) else (if t319 = true then (some 1) else (if a0 < a1 then (some (-1)) else (if a0 > a1 then (some 1) else (some 0))))))
set_option maxHeartbeats 8000000 in
set_option maxRecDepth 100000 in
theorem cmp_Compare_int.calls (a0 : Int) (a1 : Int) (r : Int) (w : World) (h : cmp_Compare_int.f a0 a1 = some r) :
  Calls Tryd.prog 76 #[.int .i64 a0, .int .i64 a1] w fun e w' => e = .returned (.int .i64 r) ∧ Drawn0 w w' := by
 have H : ((cmp_isNaN_int.f a0).bind fun t318 => ((cmp_isNaN_int.f a1).bind fun t319 => (if t318 = true then (if t319 = true then (some 0) else (some (-1))) else (if t319 = true then (some 1) else (if a0 < a1 then (some (-1)) else (if a0 > a1 then (some 1) else (some 0))))))) = some r := h
 clear h
 replace H := Option.bind_eq_some_iff.mp H
 obtain ⟨t318, A30, H⟩ := H
 replace H : ((cmp_isNaN_int.f a1).bind fun t319 => (if t318 = true then (if t319 = true then (some 0) else (some (-1))) else (if t319 = true then (some 1) else (if a0 < a1 then (some (-1)) else (if a0 > a1 then (some 1) else (some 0)))))) = some r := H
 have A3 := Aside0.mk A30
 clear A30
 replace H := Option.bind_eq_some_iff.mp H
 obtain ⟨t319, A40, H⟩ := H
 replace H : (if t318 = true then (if t319 = true then (some 0) else (some (-1))) else (if t319 = true then (some 1) else (if a0 < a1 then (some (-1)) else (if a0 > a1 then (some 1) else (some 0))))) = some r := H
 have A4 := Aside0.mk A40
 clear A40
 by_cases c5 : t318 = true
 ·subst c5
  replace H : (if t319 = true then (some 0) else (some (-1))) = some r := by rw [if_pos rfl] at H; exact H
  by_cases c6 : t319 = true
  ·subst c6
   replace H : (some 0) = some r := by rw [if_pos rfl] at H; exact H
   obtain rfl := Option.some.inj H
   go_enter Tryd.func76, Tryd.ntmps76
   go_wp2_with (first | ((with_reducible refine gate_callee (f := 92) rfl ?_); refine goesL_ (some 8) rfl rfl Tryd.func92 (by kernel_rfl) rfl #[.int .i64 a0] rfl amp_ ?_; (with_reducible refine (cmp_isNaN_int.calls a0 true _ A3.out).mono ?_); rintro e w' ⟨rfl, ⟨nd, rfl⟩⟩; refine ⟨_, rfl, ?_⟩) | ((with_reducible refine gate_callee (f := 92) rfl ?_); refine goesL_ (some 10) rfl rfl Tryd.func92 (by kernel_rfl) rfl #[.int .i64 a1] rfl amp_ ?_; (with_reducible refine (cmp_isNaN_int.calls a1 true _ A4.out).mono ?_); rintro e w' ⟨rfl, ⟨nd, rfl⟩⟩; refine ⟨_, rfl, ?_⟩))
   go_ret
   exact dr_
  ·replace c6 := Bool.eq_false_iff.mpr c6
   subst c6
   replace H : (some (-1)) = some r := by rw [if_neg (show ¬ (false = true) by decide)] at H; exact H
   obtain rfl := Option.some.inj H
   go_enter Tryd.func76, Tryd.ntmps76
   go_wp2_with (first | ((with_reducible refine gate_callee (f := 92) rfl ?_); refine goesL_ (some 8) rfl rfl Tryd.func92 (by kernel_rfl) rfl #[.int .i64 a0] rfl amp_ ?_; (with_reducible refine (cmp_isNaN_int.calls a0 true _ A3.out).mono ?_); rintro e w' ⟨rfl, ⟨nd, rfl⟩⟩; refine ⟨_, rfl, ?_⟩) | ((with_reducible refine gate_callee (f := 92) rfl ?_); refine goesL_ (some 10) rfl rfl Tryd.func92 (by kernel_rfl) rfl #[.int .i64 a1] rfl amp_ ?_; (with_reducible refine (cmp_isNaN_int.calls a1 false _ A4.out).mono ?_); rintro e w' ⟨rfl, ⟨nd, rfl⟩⟩; refine ⟨_, rfl, ?_⟩))
   go_ret
   exact dr_
 ·replace c5 := Bool.eq_false_iff.mpr c5
  subst c5
  replace H : (if t319 = true then (some 1) else (if a0 < a1 then (some (-1)) else (if a0 > a1 then (some 1) else (some 0)))) = some r := by rw [if_neg (show ¬ (false = true) by decide)] at H; exact H
  by_cases c7 : t319 = true
  ·subst c7
   replace H : (some 1) = some r := by rw [if_pos rfl] at H; exact H
   obtain rfl := Option.some.inj H
   go_enter Tryd.func76, Tryd.ntmps76
   go_wp2_with (first | ((with_reducible refine gate_callee (f := 92) rfl ?_); refine goesL_ (some 8) rfl rfl Tryd.func92 (by kernel_rfl) rfl #[.int .i64 a0] rfl amp_ ?_; (with_reducible refine (cmp_isNaN_int.calls a0 false _ A3.out).mono ?_); rintro e w' ⟨rfl, ⟨nd, rfl⟩⟩; refine ⟨_, rfl, ?_⟩) | ((with_reducible refine gate_callee (f := 92) rfl ?_); refine goesL_ (some 10) rfl rfl Tryd.func92 (by kernel_rfl) rfl #[.int .i64 a1] rfl amp_ ?_; (with_reducible refine (cmp_isNaN_int.calls a1 true _ A4.out).mono ?_); rintro e w' ⟨rfl, ⟨nd, rfl⟩⟩; refine ⟨_, rfl, ?_⟩))
   go_ret
   exact dr_
  ·replace c7 := Bool.eq_false_iff.mpr c7
   subst c7
   replace H : (if a0 < a1 then (some (-1)) else (if a0 > a1 then (some 1) else (some 0))) = some r := by rw [if_neg (show ¬ (false = true) by decide)] at H; exact H
   by_cases c8 : a0 < a1
   ·rw [if_pos c8] at H
    have c8b0 : decide (a0 < a1) = true := decide_eq_true c8
    clear c8
    obtain rfl := Option.some.inj H
    go_enter Tryd.func76, Tryd.ntmps76
    go_wp2_with (first | ((with_reducible refine gate_callee (f := 92) rfl ?_); refine goesL_ (some 8) rfl rfl Tryd.func92 (by kernel_rfl) rfl #[.int .i64 a0] rfl amp_ ?_; (with_reducible refine (cmp_isNaN_int.calls a0 false _ A3.out).mono ?_); rintro e w' ⟨rfl, ⟨nd, rfl⟩⟩; refine ⟨_, rfl, ?_⟩) | ((with_reducible refine gate_callee (f := 92) rfl ?_); refine goesL_ (some 10) rfl rfl Tryd.func92 (by kernel_rfl) rfl #[.int .i64 a1] rfl amp_ ?_; (with_reducible refine (cmp_isNaN_int.calls a1 false _ A4.out).mono ?_); rintro e w' ⟨rfl, ⟨nd, rfl⟩⟩; refine ⟨_, rfl, ?_⟩))
    go_ret
    exact dr_
   ·rw [if_neg c8] at H
    have c8b0 : decide (a0 < a1) = false := decide_eq_false c8
    clear c8
    by_cases c9 : a0 > a1
    ·rw [if_pos c9] at H
     have c9b0 : decide (a1 < a0) = true := decide_eq_true c9
     clear c9
     obtain rfl := Option.some.inj H
     go_enter Tryd.func76, Tryd.ntmps76
     go_wp2_with (first | ((with_reducible refine gate_callee (f := 92) rfl ?_); refine goesL_ (some 8) rfl rfl Tryd.func92 (by kernel_rfl) rfl #[.int .i64 a0] rfl amp_ ?_; (with_reducible refine (cmp_isNaN_int.calls a0 false _ A3.out).mono ?_); rintro e w' ⟨rfl, ⟨nd, rfl⟩⟩; refine ⟨_, rfl, ?_⟩) | ((with_reducible refine gate_callee (f := 92) rfl ?_); refine goesL_ (some 10) rfl rfl Tryd.func92 (by kernel_rfl) rfl #[.int .i64 a1] rfl amp_ ?_; (with_reducible refine (cmp_isNaN_int.calls a1 false _ A4.out).mono ?_); rintro e w' ⟨rfl, ⟨nd, rfl⟩⟩; refine ⟨_, rfl, ?_⟩))
     go_ret
     exact dr_
    ·rw [if_neg c9] at H
     have c9b0 : decide (a1 < a0) = false := decide_eq_false c9
     clear c9
     obtain rfl := Option.some.inj H
     go_enter Tryd.func76, Tryd.ntmps76
     go_wp2_with (first | ((with_reducible refine gate_callee (f := 92) rfl ?_); refine goesL_ (some 8) rfl rfl Tryd.func92 (by kernel_rfl) rfl #[.int .i64 a0] rfl amp_ ?_; (with_reducible refine (cmp_isNaN_int.calls a0 false _ A3.out).mono ?_); rintro e w' ⟨rfl, ⟨nd, rfl⟩⟩; refine ⟨_, rfl, ?_⟩) | ((with_reducible refine gate_callee (f := 92) rfl ?_); refine goesL_ (some 10) rfl rfl Tryd.func92 (by kernel_rfl) rfl #[.int .i64 a1] rfl amp_ ?_; (with_reducible refine (cmp_isNaN_int.calls a1 false _ A4.out).mono ?_); rintro e w' ⟨rfl, ⟨nd, rfl⟩⟩; refine ⟨_, rfl, ?_⟩))
     go_ret
     exact dr_

end Go.Proofs.YtgblginphicacaaDoor.PFnExactFarthestByFlips
