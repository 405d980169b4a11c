-- WRITTEN BY A PROGRAM OF THIS WORK (wip/tools/ppatch.py) for this claim.
import Derived.Test.YtgblginphicacaaGreatDoorPFnExactCountByFlipsx0
import Derived.Test.YtgblginphicacaaGreatDoorPFnExactCountByFlipsx10
import Derived.Test.YtgblginphicacaaGreatDoorPFnExactCountByFlipsx15
namespace Go.Proofs.YtgblginphicacaaGreatDoor.PFnExactCountByFlips
open Go.RowKit Go.Proofs.YtgblginphicacaaGreatDoorW.PrintWords Go.Proofs.YtgblginphicacaaGreatDoorW.PrintLast Go.Proofs.YtgblginphicacaaGreatDoorW.PrintMore
attribute [local go_sem] max2_int min2_int max_two min_two max_three min_three max_four min_four   -- for this text's walks alone
set_option linter.unusedVariables false
set_option linter.unusedSimpArgs false

/-! ### impl_otherOf: function 45 -/
mutual
def impl_otherOf.l0 : Nat → Int → Int → List (List Int) → Int → Int → Int → Int → Option (Int × Int)
 | 0, _, _, _, _, _, _, _ => none
 | k + 1, x7, x8, x15, x16, x17, x329000, x329001 => if x17 < x16 then (if 0 ≤ x17 then (if x17 < (x15.length : Int) then ((slices_Contains_int_int.f k (rd_L5 x15 x17) x329000).bind fun t334 => (if t334 = true then ((slices_Contains_int_int.f k (rd_L5 x15 x17) x329001).bind fun t335 => (if t335 = true then (impl_otherOf.l1 k x7 x8 x15 x16 x17 (rd_L5 x15 x17) ((rd_L5 x15 x17).length : Int) 0 x329000 x329001) else (impl_otherOf.l0 k x7 x8 x15 x16 (wrap64 (x17 + 1)) x329000 x329001))) else (impl_otherOf.l0 k x7 x8 x15 x16 (wrap64 (x17 + 1)) x329000 x329001))) else (none)) else (none)) else (some (mn x7 x8, mx x7 x8))
def impl_otherOf.l1 : Nat → Int → Int → List (List Int) → Int → Int → List Int → Int → Int → Int → Int → Option (Int × Int)
 | 0, _, _, _, _, _, _, _, _, _, _ => none
 | k + 1, x7, x8, x15, x16, x17, x33, x34, x35, x329000, x329001 => if x35 < x34 then (if 0 ≤ x35 then (if x35 < (x33.length : Int) then (if (rd x33 x35) = x329000 then (impl_otherOf.j2 k x7 x8 (rd x33 x35) x15 x16 x17 x33 x34 x35 true x329000 x329001) else (impl_otherOf.j2 k x7 x8 (rd x33 x35) x15 x16 x17 x33 x34 x35 ((rd x33 x35) == x329001) x329000 x329001)) else (none)) else (none)) else (impl_otherOf.l0 k x7 x8 x15 x16 (wrap64 (x17 + 1)) x329000 x329001)
def impl_otherOf.j2 : Nat → Int → Int → Int → List (List Int) → Int → Int → List Int → Int → Int → Bool → Int → Int → Option (Int × Int)
 | 0, _, _, _, _, _, _, _, _, _, _, _, _ => none
 | k + 1, x7, x8, x12, x15, x16, x17, x33, x34, x35, x40, x329000, x329001 => if x40 = true then (impl_otherOf.l1 k x7 x8 x15 x16 x17 x33 x34 (wrap64 (x35 + 1)) x329000 x329001) else ((impl_within.f x12 x329000 x329001).bind fun t337 => (if t337 = true then (impl_otherOf.l1 k x12 x8 x15 x16 x17 x33 x34 (wrap64 (x35 + 1)) x329000 x329001) else (impl_otherOf.l1 k x7 x12 x15 x16 x17 x33 x34 (wrap64 (x35 + 1)) x329000 x329001)))
end
def impl_otherOf.f (k : Nat) (a0 : Int) (l1 : List (S38)) (a2_0 : Int) (a2_1 : Int) : Option (Int × Int) := (impl_triangles.f k a0 l1).bind fun t330 => (impl_otherOf.l0 k (-1) (-1) t330 (t330.length : Int) 0 a2_0 a2_1)
theorem impl_otherOf.mono_l : ∀ k, (∀ y0 y1 y2 y3 y4 y5 y6, LeO (impl_otherOf.l0 k y0 y1 y2 y3 y4 y5 y6) (impl_otherOf.l0 (k + 1) y0 y1 y2 y3 y4 y5 y6)) ∧ (∀ y0 y1 y2 y3 y4 y5 y6 y7 y8 y9, LeO (impl_otherOf.l1 k y0 y1 y2 y3 y4 y5 y6 y7 y8 y9) (impl_otherOf.l1 (k + 1) y0 y1 y2 y3 y4 y5 y6 y7 y8 y9)) ∧ (∀ y0 y1 y2 y3 y4 y5 y6 y7 y8 y9 y10 y11, LeO (impl_otherOf.j2 k y0 y1 y2 y3 y4 y5 y6 y7 y8 y9 y10 y11) (impl_otherOf.j2 (k + 1) y0 y1 y2 y3 y4 y5 y6 y7 y8 y9 y10 y11))
 | 0 => ⟨fun _ _ _ _ _ _ _ r h => by simp [impl_otherOf.l0] at h, fun _ _ _ _ _ _ _ _ _ _ r h => by simp [impl_otherOf.l1] at h, fun _ _ _ _ _ _ _ _ _ _ _ _ r h => by simp [impl_otherOf.j2] at h⟩
 | k + 1 => by
  obtain ⟨ih0, ih1, ih2⟩ := impl_otherOf.mono_l k
  refine ⟨?_, ?_, ?_⟩
  ·intro y0 y1 y2 y3 y4 y5 y6
   unfold impl_otherOf.l0
   repeat' first
   | (with_reducible exact ih0 _ _ _ _ _ _ _)
   | (with_reducible exact ih1 _ _ _ _ _ _ _ _ _ _)
   | (with_reducible exact ih2 _ _ _ _ _ _ _ _ _ _ _ _)
   | (with_reducible exact impl_triangles.mono _ _ _)
   | (with_reducible exact slices_Contains_int_int.mono _ _ _)
   | (with_reducible exact LeO.refl _)
   | (with_reducible exact LeO.none _)
   | (with_reducible refine LeO.ite ?_ ?_)
   | (with_reducible refine LeO.bind ?_ (fun _ => ?_))
   | exact ih0 _ _ _ _ _ _ _
   | exact ih1 _ _ _ _ _ _ _ _ _ _
   | exact ih2 _ _ _ _ _ _ _ _ _ _ _ _
   | exact impl_triangles.mono _ _ _
   | exact slices_Contains_int_int.mono _ _ _
   | exact LeO.none _
   | refine LeO.ite ?_ ?_
   | refine LeO.bind ?_ (fun _ => ?_)
  ·intro y0 y1 y2 y3 y4 y5 y6 y7 y8 y9
   unfold impl_otherOf.l1
   repeat' first
   | (with_reducible exact ih0 _ _ _ _ _ _ _)
   | (with_reducible exact ih1 _ _ _ _ _ _ _ _ _ _)
   | (with_reducible exact ih2 _ _ _ _ _ _ _ _ _ _ _ _)
   | (with_reducible exact impl_triangles.mono _ _ _)
   | (with_reducible exact slices_Contains_int_int.mono _ _ _)
   | (with_reducible exact LeO.refl _)
   | (with_reducible exact LeO.none _)
   | (with_reducible refine LeO.ite ?_ ?_)
   | (with_reducible refine LeO.bind ?_ (fun _ => ?_))
   | exact ih0 _ _ _ _ _ _ _
   | exact ih1 _ _ _ _ _ _ _ _ _ _
   | exact ih2 _ _ _ _ _ _ _ _ _ _ _ _
   | exact impl_triangles.mono _ _ _
   | exact slices_Contains_int_int.mono _ _ _
   | exact LeO.none _
   | refine LeO.ite ?_ ?_
   | refine LeO.bind ?_ (fun _ => ?_)
  ·intro y0 y1 y2 y3 y4 y5 y6 y7 y8 y9 y10 y11
   unfold impl_otherOf.j2
   repeat' first
   | (with_reducible exact ih0 _ _ _ _ _ _ _)
   | (with_reducible exact ih1 _ _ _ _ _ _ _ _ _ _)
   | (with_reducible exact ih2 _ _ _ _ _ _ _ _ _ _ _ _)
   | (with_reducible exact impl_triangles.mono _ _ _)
   | (with_reducible exact slices_Contains_int_int.mono _ _ _)
   | (with_reducible exact LeO.refl _)
   | (with_reducible exact LeO.none _)
   | (with_reducible refine LeO.ite ?_ ?_)
   | (with_reducible refine LeO.bind ?_ (fun _ => ?_))
   | exact ih0 _ _ _ _ _ _ _
   | exact ih1 _ _ _ _ _ _ _ _ _ _
   | exact ih2 _ _ _ _ _ _ _ _ _ _ _ _
   | exact impl_triangles.mono _ _ _
   | exact slices_Contains_int_int.mono _ _ _
   | exact LeO.none _
   | refine LeO.ite ?_ ?_
   | refine LeO.bind ?_ (fun _ => ?_)
theorem impl_otherOf.mono : ∀ a0 a1 a2 a3 k, LeO (impl_otherOf.f k a0 a1 a2 a3) (impl_otherOf.f (k + 1) a0 a1 a2 a3) := by
 intro a0 a1 a2 a3 k
 obtain ⟨ih0, ih1, ih2⟩ := impl_otherOf.mono_l k
 unfold impl_otherOf.f
 repeat' first
   | (with_reducible exact ih0 _ _ _ _ _ _ _)
   | (with_reducible exact ih1 _ _ _ _ _ _ _ _ _ _)
   | (with_reducible exact ih2 _ _ _ _ _ _ _ _ _ _ _ _)
   | (with_reducible exact impl_triangles.mono _ _ _)
   | (with_reducible exact slices_Contains_int_int.mono _ _ _)
   | (with_reducible exact LeO.refl _)
   | (with_reducible exact LeO.none _)
   | (with_reducible refine LeO.ite ?_ ?_)
   | (with_reducible refine LeO.bind ?_ (fun _ => ?_))
   | exact ih0 _ _ _ _ _ _ _
   | exact ih1 _ _ _ _ _ _ _ _ _ _
   | exact ih2 _ _ _ _ _ _ _ _ _ _ _ _
   | exact impl_triangles.mono _ _ _
   | exact slices_Contains_int_int.mono _ _ _
   | exact LeO.none _
   | refine LeO.ite ?_ ?_
   | refine LeO.bind ?_ (fun _ => ?_)
set_option maxHeartbeats 8000000 in
set_option maxRecDepth 100000 in
theorem impl_otherOf.calls (k : Nat) (a0 : Int) (A1 : Option Addr) (c1 : Nat) (l1 : List (S38)) (a2_0 : Int) (a2_1 : Int) (r1 : Int) (r2 : Int) (w : World) (hr1 : Kd.C k38 w A1 l1.length l1) (hc1 : l1.length ≤ c1) (h : impl_otherOf.f k a0 l1 a2_0 a2_1 = some (r1, r2)) :
  Calls Tryz.prog 45 #[.int .i64 a0, .slice A1 l1.length c1, .agg #[.int .i64 a2_0, .int .i64 a2_1]] w fun e w' => e = .returned (.agg #[.int .i64 r1, .int .i64 r2]) ∧ Below w.heap.size w w' := by
 have hu38 := Tryz.underlying38
 have HR1 := Aside0.mk hr1
 have HC1 := Aside0.mk hc1
 clear hr1 hc1
 have HB := Aside0.mk (Below.refl w.heap.size w)
 have H : ((impl_triangles.f k a0 l1).bind fun t330 => (impl_otherOf.l0 k (-1) (-1) t330 (t330.length : Int) 0 a2_0 a2_1)) = some (r1, r2) := h
 clear h
 replace H := Option.bind_eq_some_iff.mp H
 obtain ⟨t330, A40, H⟩ := H
 replace H : (impl_otherOf.l0 k (-1) (-1) t330 (t330.length : Int) 0 a2_0 a2_1) = some (r1, r2) := H
 have A4 := Aside0.mk A40
 clear A40
 have H' := Aside0.mk H
 clear H
 go_enter Tryz.func45, Tryz.ntmps45
 go_wp2_with (first | ((with_reducible refine gate_dst (N := 5) rfl ?_); refine bxe_ 5 #[.int .i64 a2_0, .int .i64 a2_1] 38 ?_; intro gb328 hg w5 hbox hb; have BK328 := Aside0.mk (hbox); have GW328 := gz_ w hg; have GE328 := gz_ w hg; replace HB := Aside0.mk (below_step blw_ hb); clear hb hbox hg) | ((with_reducible refine gate_dst (N := 6) rfl ?_); refine bxe_ 6 #[.int .i64 0, .int .i64 0] 38 ?_; intro gb329 hg w6 hbox hb; have BK329 := Aside0.mk (hbox); have GW329 := gz_ w hg; have GE329 := gz_ w hg; have NB328_329 := nb_ BK328 hg; have NB329_328 := nbr_ BK328 hg; replace BK328 := bb_ BK328 hb; replace HB := Aside0.mk (below_step bls_ hb); clear hb hbox hg) | ((with_reducible refine gate_callee (f := 59) rfl ?_); refine goesL_ (some 15) rfl rfl Tryz.func59 (by kernel_rfl) rfl #[.int .i64 a0, .slice A1 l1.length c1] rfl amp_ ?_; (with_reducible refine (impl_triangles.calls k a0 _ _ l1 t330 _ ?side1 ?side2 A4.out).mono ?_); (case side1 => exact cd_ (Kd.C_below HR1.out HB.out)); (case side2 => exact HC1.out); rintro e w7 ⟨v331, rfl, ho0, hb⟩; refine ⟨_, rfl, ?_⟩; have HO332 := Aside0.mk (Kd.S_lower ho0 (below_size bls_)); replace BK328 := bb_ BK328 hb; replace BK329 := bb_ BK329 hb; replace HB := Aside0.mk (below_step bls_ hb); (try clear hb); (try clear hb2); (try clear hk); (try clear hi); (try clear ho0); obtain ⟨Ao8, co8, eo8⟩ := Kd.S_slice HO332.out; subst eo8))
 go_loopg [7, 8, 17] k (fun kq v7 v8 v17 w' => ∃ (x7_1 : Int) (x8_1 : Int) (x17_1 : Int), v7 = .int .i64 x7_1 ∧ v8 = .int .i64 x8_1 ∧ v17 = .int .i64 x17_1 ∧ Aside0 (impl_otherOf.l0 kq x7_1 x8_1 t330 (t330.length : Int) x17_1 a2_0 a2_1 = some (r1, r2)) ∧ Aside0 (kq ≤ k) ∧ Aside0 (Kd.S (Kd.slice 3 (Kd.int .i64)) 24 w' w.heap.size (fun _ => True) (.slice Ao8 t330.length co8) t330) ∧ Aside0 (w'.heap[gb328]? = some (.cells #[.int .i64 a2_0, .int .i64 a2_1] 38 (0, 0))) ∧ Aside0 (w'.heap[gb329]? = some (.cells #[.int .i64 0, .int .i64 0] 38 (0, 0))) ∧ Aside0 (Below w.heap.size w w'))
 case atStart => exact ⟨((-1)), ((-1)), (0), rsd_, rsd_, rsd_, H', ⟨Nat.le_refl _⟩, ⟨sa_ HO332.out⟩, ⟨bk_ BK328.out⟩, ⟨bk_ BK329.out⟩, ⟨bls_⟩⟩
 case round =>
  clear H'
  try clear c1
  try clear p2
  try clear c4
  try clear c5
  try clear HO_15
  obtain ⟨x7_1, x8_1, x17_1, rfl, rfl, rfl, HA, HK1, HO_15, BK328, BK329, HB⟩ := hrel
  cases gk with
  | zero => exact absurd HA.out (by simp [impl_otherOf.l0])
  | succ k1 =>
   have H := HA.out
   clear HA
   simp only [impl_otherOf.l0] at H
   by_cases c9 : x17_1 < (t330.length : Int)
   ·rw [if_pos c9] at H
    have c9b0 : decide (x17_1 < (t330.length : Int)) = true := decide_eq_true c9
    clear c9
    by_cases c10 : 0 ≤ x17_1
    case neg=>rw [if_neg c10] at H;exact absurd H (by simp)
    rw [if_pos c10] at H
    have c10b0 : decide (0 ≤ x17_1) = true := decide_eq_true c10
    clear c10
    by_cases c11 : x17_1 < (t330.length : Int)
    case neg=>rw [if_neg c11] at H;exact absurd H (by simp)
    rw [if_pos c11] at H
    have c11b0 : decide (x17_1 < (t330.length : Int)) = true := decide_eq_true c11
    clear c11
    replace H := Option.bind_eq_some_iff.mp H
    obtain ⟨t334, A120, H⟩ := H
    replace H : (if t334 = true then ((slices_Contains_int_int.f k1 (rd_L5 t330 x17_1) a2_1).bind fun t335 => (if t335 = true then (impl_otherOf.l1 k1 x7_1 x8_1 t330 (t330.length : Int) x17_1 (rd_L5 t330 x17_1) ((rd_L5 t330 x17_1).length : Int) 0 a2_0 a2_1) else (impl_otherOf.l0 k1 x7_1 x8_1 t330 (t330.length : Int) (wrap64 (x17_1 + 1)) a2_0 a2_1))) else (impl_otherOf.l0 k1 x7_1 x8_1 t330 (t330.length : Int) (wrap64 (x17_1 + 1)) a2_0 a2_1)) = some (r1, r2) := H
    have A12 := Aside0.mk A120
    clear A120
    by_cases c13 : t334 = true
    ·subst c13
     replace H : ((slices_Contains_int_int.f k1 (rd_L5 t330 x17_1) a2_1).bind fun t335 => (if t335 = true then (impl_otherOf.l1 k1 x7_1 x8_1 t330 (t330.length : Int) x17_1 (rd_L5 t330 x17_1) ((rd_L5 t330 x17_1).length : Int) 0 a2_0 a2_1) else (impl_otherOf.l0 k1 x7_1 x8_1 t330 (t330.length : Int) (wrap64 (x17_1 + 1)) a2_0 a2_1))) = some (r1, r2) := by rw [if_pos rfl] at H; exact H
     replace H := Option.bind_eq_some_iff.mp H
     obtain ⟨t335, A140, H⟩ := H
     replace H : (if t335 = true then (impl_otherOf.l1 k1 x7_1 x8_1 t330 (t330.length : Int) x17_1 (rd_L5 t330 x17_1) ((rd_L5 t330 x17_1).length : Int) 0 a2_0 a2_1) else (impl_otherOf.l0 k1 x7_1 x8_1 t330 (t330.length : Int) (wrap64 (x17_1 + 1)) a2_0 a2_1)) = some (r1, r2) := H
     have A14 := Aside0.mk A140
     clear A140
     by_cases c15 : t335 = true
     ·subst c15
      replace H : (impl_otherOf.l1 k1 x7_1 x8_1 t330 (t330.length : Int) x17_1 (rd_L5 t330 x17_1) ((rd_L5 t330 x17_1).length : Int) 0 a2_0 a2_1) = some (r1, r2) := by rw [if_pos rfl] at H; exact H
      have H' := Aside0.mk H
      clear H
      have p333 : 0 ≤ (x17_1 : Int) := odt_
      have q333 : x17_1 < (t330.length : Int) := odt_
      obtain ⟨ad333, A333_0, c333_0, e333, hx333_0, hl333_0, hi333_0⟩ := at_L5 (Kd.S_reads' HO_15.out).2.2 x17_1 p333 q333
      cases e333
      obtain ⟨ce333, hce333, hMe333, hcc333⟩ := Kd.S_get HO_15.out [] x17_1 p333 (by first | exact q333 | exact odt_ | (have e_ := (Kd.S_reads' HO_15.out).1; omega))
      obtain ⟨ve333_0, rfl, ge333_0⟩ := hMe333
      have hv333_0 := hcc333 0 _ rfl
      rw [Nat.add_zero, show ((Kd.slice 3 (Kd.int .i64))).sz = 1 from rfl, Nat.mul_one] at hv333_0
      replace hv333_0 := Option.some.inj (hv333_0.symm.trans hx333_0)
      rw [hv333_0] at ge333_0
      have HL333_0 := Aside0.mk (show Kd.R (Kd.int .i64) 3 _ _ _ _ (rd_L5 t330 x17_1) from ge333_0)
      clear hv333_0 ge333_0
      clear hcc333 hce333
      have HR333_0 := Aside0.mk hi333_0
      have HC333_0 := Aside0.mk hl333_0
      clear hi333_0 hl333_0
      replace p333 := eq_true p333
      replace q333 := eq_true q333
      have hnb16 := NB328_329.out
      have hnc16 := NB329_328.out
      have hcz17_0 := blc_ (.int .i64 a2_0) BK328 0
      have hcz17_1 := blc_ (.int .i64 a2_1) BK328 1
      have hfz17_0 := blk_frozen BK328.out 0
      have hfz17_1 := blk_frozen BK328.out 1
      go_wp2_with (first | ((with_reducible refine gate_callee (f := 60) rfl ?_); refine goesL_ (some 24) rfl rfl Tryz.func60 (by kernel_rfl) rfl #[.slice A333_0 (rd_L5 t330 x17_1).length c333_0, .int .i64 a2_0] rfl amp_ ?_; (with_reducible refine (slices_Contains_int_int.calls k1 _ _ (rd_L5 t330 x17_1) a2_0 true _ ?side1 ?side2 A12.out).mono ?_); (case side1 => repeat (first | exact (by repeat (first | (with_reducible exact HR333_0.out) | (with_reducible refine Kd.C_alloc ?_ _) | (with_reducible refine Kd.C_drewN ?_ _) | (with_reducible refine Kd.C_drew ?_) | exact HR333_0.out)) | (with_reducible refine Kd.C_alloc ?_ _) | (with_reducible refine Kd.C_drewN ?_ _) | (with_reducible refine Kd.C_drew ?_))); (case side2 => exact HC333_0.out); rintro e w' ⟨rfl, ⟨nd, rfl⟩⟩; refine ⟨_, rfl, ?_⟩) | (go_at_call 60; (with_reducible refine (slices_Contains_int_int.calls k1 _ _ (rd_L5 t330 x17_1) a2_1 true _ ?side1 ?side2 A14.out).mono ?_); (case side1 => repeat (first | exact (by repeat (first | (with_reducible exact HR333_0.out) | (with_reducible refine Kd.C_alloc ?_ _) | (with_reducible refine Kd.C_drewN ?_ _) | (with_reducible refine Kd.C_drew ?_) | exact HR333_0.out)) | (with_reducible refine Kd.C_alloc ?_ _) | (with_reducible refine Kd.C_drewN ?_ _) | (with_reducible refine Kd.C_drew ?_))); (case side2 => exact HC333_0.out); rintro e w' ⟨rfl, ⟨nd, rfl⟩⟩))
      go_loopg [7, 8, 35] k1 (fun kq v7 v8 v35 w' => ∃ (x7_2 : Int) (x8_2 : Int) (x35_2 : Int), v7 = .int .i64 x7_2 ∧ v8 = .int .i64 x8_2 ∧ v35 = .int .i64 x35_2 ∧ Aside0 (impl_otherOf.l1 kq x7_2 x8_2 t330 (t330.length : Int) x17_1 (rd_L5 t330 x17_1) ((rd_L5 t330 x17_1).length : Int) x35_2 a2_0 a2_1 = some (r1, r2)) ∧ Aside0 (kq ≤ k1) ∧ Aside0 (Kd.S (Kd.slice 3 (Kd.int .i64)) 24 w' w.heap.size (fun _ => True) (.slice (some ad333) t330.length co8) t330) ∧ Aside0 (w'.heap[gb328]? = some (.cells #[.int .i64 a2_0, .int .i64 a2_1] 38 (0, 0))) ∧ Aside0 (w'.heap[gb329]? = some (.cells #[.int .i64 0, .int .i64 0] 38 (0, 0))) ∧ Aside0 (Kd.C (Kd.int .i64) w' A333_0 (rd_L5 t330 x17_1).length (rd_L5 t330 x17_1)) ∧ Aside0 (Below w.heap.size w w'))
      case atStart => exact ⟨(x7_1), (x8_1), (0), rsd_, rsd_, rsd_, H', ⟨Nat.le_refl _⟩, ⟨sa_ HO_15.out⟩, ⟨bk_ BK328.out⟩, ⟨bk_ BK329.out⟩, ⟨by repeat (first | (with_reducible exact HR333_0.out) | (with_reducible refine Kd.C_alloc ?_ _) | (with_reducible refine Kd.C_drewN ?_ _) | (with_reducible refine Kd.C_drew ?_) | exact HR333_0.out)⟩, ⟨bls_⟩⟩
      case round =>
       clear H'
       try clear c1
       try clear p2
       try clear c3
       try clear p3
       try clear q3
       try clear hx3
       try clear c4
       try clear c5
       try clear c6
       try clear p6
       try clear c9
       try clear c9b0
       try clear c10
       try clear c10b0
       try clear c11
       try clear c11b0
       try clear c13
       try clear c15
       try clear c16
       try clear hcz17_0
       try clear hcz17_1
       try clear hfz17_0
       try clear hfz17_1
       try clear hx333_0
       try clear p2
       try clear p333
       try clear q333
       try clear HO_15
       obtain ⟨x7_2, x8_2, x35_2, rfl, rfl, rfl, HA, HK2, HO_15, BK328, BK329, HR333_0, HB⟩ := hrel
       cases gk with
       | zero => exact absurd HA.out (by simp [impl_otherOf.l1])
       | succ k2 =>
        have H := HA.out
        clear HA
        simp only [impl_otherOf.l1] at H
        by_cases c18 : x35_2 < ((rd_L5 t330 x17_1).length : Int)
        ·rw [if_pos c18] at H
         have c18b0 : decide (x35_2 < ((rd_L5 t330 x17_1).length : Int)) = true := decide_eq_true c18
         clear c18
         by_cases c19 : 0 ≤ x35_2
         case neg=>rw [if_neg c19] at H;exact absurd H (by simp)
         rw [if_pos c19] at H
         have c19b0 : decide (0 ≤ x35_2) = true := decide_eq_true c19
         clear c19
         by_cases c20 : x35_2 < ((rd_L5 t330 x17_1).length : Int)
         case neg=>rw [if_neg c20] at H;exact absurd H (by simp)
         rw [if_pos c20] at H
         have c20b0 : decide (x35_2 < ((rd_L5 t330 x17_1).length : Int)) = true := decide_eq_true c20
         clear c20
         have HC21 := Aside0.mk H
         clear H
         have p336 : 0 ≤ (x35_2 : Int) := odt_
         have q336 : x35_2 < ((rd_L5 t330 x17_1).length : Int) := odt_
         obtain ⟨ad336, e336, hx336_0⟩ := Kd.at_int HR333_0.out x35_2 p336 q336
         cases e336
         (first | replace hx336_0 := (HB.out.cell (World.block_lt_of_cell? w _ hx336_0)).trans hx336_0 | skip)
         replace p336 := eq_true p336
         replace q336 := eq_true q336
         go_upto_region 10 with (fail)
         go_cut [40] (fun v40 wc => ∃ (kq : Nat) (x40_20 : Bool), v40 = .bool x40_20 ∧ Aside0 (impl_otherOf.j2 kq x7_2 x8_2 (rd (rd_L5 t330 x17_1) x35_2) t330 (t330.length : Int) x17_1 (rd_L5 t330 x17_1) ((rd_L5 t330 x17_1).length : Int) x35_2 x40_20 a2_0 a2_1 = some (r1, r2)) ∧ Aside0 (kq ≤ k2) ∧ Aside0 (Kd.S (Kd.slice 3 (Kd.int .i64)) 24 wc w.heap.size (fun _ => True) (.slice (some ad333) t330.length co8) t330) ∧ Aside0 (wc.heap[gb328]? = some (.cells #[.int .i64 a2_0, .int .i64 a2_1] 38 (0, 0))) ∧ Aside0 (wc.heap[gb329]? = some (.cells #[.int .i64 0, .int .i64 0] 38 (0, 0))) ∧ Aside0 (Kd.C (Kd.int .i64) wc (some ad336) (rd_L5 t330 x17_1).length (rd_L5 t330 x17_1)) ∧ Aside0 (Below w.heap.size w wc))
         case first =>
          have H := HC21.out
          clear HC21
          by_cases c22 : (rd (rd_L5 t330 x17_1) x35_2) = a2_0
          ·rw [if_pos c22] at H
           have c22b0 : ((rd (rd_L5 t330 x17_1) x35_2) == a2_0) = true := beq_iff_eq.mpr c22
           have c22b1 : ((rd (rd_L5 t330 x17_1) x35_2) != a2_0) = false := bne_eq_false_iff_eq.mpr c22
           clear c22
           (first | rw [c22b0] | (simp only [i64_w, i32_w]; rw [c22b0]) | skip)
           have H' := Aside0.mk H
           clear H
           have hnb23 := NB328_329.out
           have hnc23 := NB329_328.out
           have hcz24_0 := blc_ (.int .i64 a2_0) BK328 0
           have hcz24_1 := blc_ (.int .i64 a2_1) BK328 1
           have hfz24_0 := blk_frozen BK328.out 0
           have hfz24_1 := blk_frozen BK328.out 1
           go_wp2
           go_meet
           case rel => exact ⟨_, (true), rsd_, H', ⟨by have := HK1.out; have := HK2.out; first | omega | exact Nat.le_refl _⟩, ⟨sa_ HO_15.out⟩, ⟨bk_ BK328.out⟩, ⟨bk_ BK329.out⟩, ⟨by repeat (first | (with_reducible exact HR333_0.out) | (with_reducible refine Kd.C_alloc ?_ _) | (with_reducible refine Kd.C_drewN ?_ _) | (with_reducible refine Kd.C_drew ?_) | exact HR333_0.out)⟩, ⟨bls_⟩⟩
          ·rw [if_neg c22] at H
           have c22b0 : ((rd (rd_L5 t330 x17_1) x35_2) == a2_0) = false := beq_eq_false_iff_ne.mpr c22
           have c22b1 : ((rd (rd_L5 t330 x17_1) x35_2) != a2_0) = true := bne_iff_ne.mpr c22
           (first | rw [c22b0] | (simp only [i64_w, i32_w]; rw [c22b0]) | skip)
           have H' := Aside0.mk H
           clear H
           have hnb25 := NB328_329.out
           have hnc25 := NB329_328.out
           have hcz26_0 := blc_ (.int .i64 a2_0) BK328 0
           have hcz26_1 := blc_ (.int .i64 a2_1) BK328 1
           have hfz26_0 := blk_frozen BK328.out 0
           have hfz26_1 := blk_frozen BK328.out 1
           go_wp2
           go_meet
           case rel => exact ⟨_, (((rd (rd_L5 t330 x17_1) x35_2) == a2_1)), rsd_, H', ⟨by have := HK1.out; have := HK2.out; first | omega | exact Nat.le_refl _⟩, ⟨sa_ HO_15.out⟩, ⟨bk_ BK328.out⟩, ⟨bk_ BK329.out⟩, ⟨by repeat (first | (with_reducible exact HR333_0.out) | (with_reducible refine Kd.C_alloc ?_ _) | (with_reducible refine Kd.C_drewN ?_ _) | (with_reducible refine Kd.C_drew ?_) | exact HR333_0.out)⟩, ⟨bls_⟩⟩
         case rest =>
          clear HC21
          try clear c1
          try clear c2
          try clear p2
          try clear c3
          try clear p3
          try clear q3
          try clear hx3
          try clear c4
          try clear c5
          try clear c6
          try clear p6
          try clear c9
          try clear c9b0
          try clear c10
          try clear c10b0
          try clear c11
          try clear c11b0
          try clear c13
          try clear c15
          try clear c16
          try clear c18
          try clear c18b0
          try clear c19
          try clear c19b0
          try clear c20
          try clear c20b0
          try clear c22
          try clear c22b0
          try clear c22b1
          try clear c23
          try clear c25
          try clear hcz17_0
          try clear hcz17_1
          try clear hcz24_0
          try clear hcz24_1
          try clear hcz26_0
          try clear hcz26_1
          try clear hfz17_0
          try clear hfz17_1
          try clear hfz24_0
          try clear hfz24_1
          try clear hfz26_0
          try clear hfz26_1
          try clear hx333_0
          try clear hx336_0
          try clear p2
          try clear p3
          try clear p333
          try clear p336
          try clear p6
          try clear q3
          try clear q333
          try clear q336
          obtain ⟨kq, x40_20, rfl, HA, HJ20, HO_15, BK328, BK329, HR333_0, HB⟩ := hcut
          cases kq with
          | zero => exact absurd HA.out (by simp [impl_otherOf.j2])
          | succ kj20 =>
           have H := HA.out
           clear HA
           simp only [impl_otherOf.j2] at H
           by_cases c27 : x40_20 = true
           ·subst c27
            replace H : (impl_otherOf.l1 kj20 x7_2 x8_2 t330 (t330.length : Int) x17_1 (rd_L5 t330 x17_1) ((rd_L5 t330 x17_1).length : Int) (wrap64 (x35_2 + 1)) a2_0 a2_1) = some (r1, r2) := by rw [if_pos rfl] at H; exact H
            have H' := Aside0.mk H
            clear H
            go_wp2
            go_roundg kj20
            case measure => have := HK1.out; have := HK2.out; have := HJ20.out; omega
            case rel => exact ⟨(x7_2), (x8_2), (wrap64 (x35_2 + 1)), rsd_, rsd_, rsd_, H', ⟨by have := HK1.out; have := HK2.out; have := HJ20.out; omega⟩, ⟨sa_ HO_15.out⟩, ⟨bk_ BK328.out⟩, ⟨bk_ BK329.out⟩, ⟨by repeat (first | (with_reducible exact HR333_0.out) | (with_reducible refine Kd.C_alloc ?_ _) | (with_reducible refine Kd.C_drewN ?_ _) | (with_reducible refine Kd.C_drew ?_) | exact HR333_0.out)⟩, ⟨bls_⟩⟩
           ·replace c27 := Bool.eq_false_iff.mpr c27
            subst c27
            replace H : ((impl_within.f (rd (rd_L5 t330 x17_1) x35_2) a2_0 a2_1).bind fun t337 => (if t337 = true then (impl_otherOf.l1 kj20 (rd (rd_L5 t330 x17_1) x35_2) x8_2 t330 (t330.length : Int) x17_1 (rd_L5 t330 x17_1) ((rd_L5 t330 x17_1).length : Int) (wrap64 (x35_2 + 1)) a2_0 a2_1) else (impl_otherOf.l1 kj20 x7_2 (rd (rd_L5 t330 x17_1) x35_2) t330 (t330.length : Int) x17_1 (rd_L5 t330 x17_1) ((rd_L5 t330 x17_1).length : Int) (wrap64 (x35_2 + 1)) a2_0 a2_1))) = some (r1, r2) := by rw [if_neg (show ¬ (false = true) by decide)] at H; exact H
            replace H := Option.bind_eq_some_iff.mp H
            obtain ⟨t337, A280, H⟩ := H
            replace H : (if t337 = true then (impl_otherOf.l1 kj20 (rd (rd_L5 t330 x17_1) x35_2) x8_2 t330 (t330.length : Int) x17_1 (rd_L5 t330 x17_1) ((rd_L5 t330 x17_1).length : Int) (wrap64 (x35_2 + 1)) a2_0 a2_1) else (impl_otherOf.l1 kj20 x7_2 (rd (rd_L5 t330 x17_1) x35_2) t330 (t330.length : Int) x17_1 (rd_L5 t330 x17_1) ((rd_L5 t330 x17_1).length : Int) (wrap64 (x35_2 + 1)) a2_0 a2_1)) = some (r1, r2) := H
            have A28 := Aside0.mk A280
            clear A280
            by_cases c29 : t337 = true
            ·subst c29
             replace H : (impl_otherOf.l1 kj20 (rd (rd_L5 t330 x17_1) x35_2) x8_2 t330 (t330.length : Int) x17_1 (rd_L5 t330 x17_1) ((rd_L5 t330 x17_1).length : Int) (wrap64 (x35_2 + 1)) a2_0 a2_1) = some (r1, r2) := by rw [if_pos rfl] at H; exact H
             have H' := Aside0.mk H
             clear H
             have hnb30 := NB328_329.out
             have hnc30 := NB329_328.out
             have hcz31_0 := blc_ (.int .i64 a2_0) BK328 0
             have hcz31_1 := blc_ (.int .i64 a2_1) BK328 1
             have hfz31_0 := blk_frozen BK328.out 0
             have hfz31_1 := blk_frozen BK328.out 1
             go_wp2_with (first | ((with_reducible refine gate_callee (f := 56) rfl ?_); refine goesL_ (some 57) rfl rfl Tryz.func56 (by kernel_rfl) rfl #[.int .i64 (rd (rd_L5 t330 x17_1) x35_2), .int .i64 a2_0, .int .i64 a2_1] rfl amp_ ?_; (with_reducible refine (impl_within.calls (rd (rd_L5 t330 x17_1) x35_2) a2_0 a2_1 true _ A28.out).mono ?_); rintro e w' ⟨rfl, ⟨nd, rfl⟩⟩; refine ⟨_, rfl, ?_⟩))
             go_roundg kj20
             case measure => have := HK1.out; have := HK2.out; have := HJ20.out; omega
             case rel => exact ⟨((rd (rd_L5 t330 x17_1) x35_2)), (x8_2), (wrap64 (x35_2 + 1)), rsd_, rsd_, rsd_, H', ⟨by have := HK1.out; have := HK2.out; have := HJ20.out; omega⟩, ⟨sa_ HO_15.out⟩, ⟨bk_ BK328.out⟩, ⟨bk_ BK329.out⟩, ⟨by repeat (first | (with_reducible exact HR333_0.out) | (with_reducible refine Kd.C_alloc ?_ _) | (with_reducible refine Kd.C_drewN ?_ _) | (with_reducible refine Kd.C_drew ?_) | exact HR333_0.out)⟩, ⟨bls_⟩⟩
            ·replace c29 := Bool.eq_false_iff.mpr c29
             subst c29
             replace H : (impl_otherOf.l1 kj20 x7_2 (rd (rd_L5 t330 x17_1) x35_2) t330 (t330.length : Int) x17_1 (rd_L5 t330 x17_1) ((rd_L5 t330 x17_1).length : Int) (wrap64 (x35_2 + 1)) a2_0 a2_1) = some (r1, r2) := by rw [if_neg (show ¬ (false = true) by decide)] at H; exact H
             have H' := Aside0.mk H
             clear H
             have hnb32 := NB328_329.out
             have hnc32 := NB329_328.out
             have hcz33_0 := blc_ (.int .i64 a2_0) BK328 0
             have hcz33_1 := blc_ (.int .i64 a2_1) BK328 1
             have hfz33_0 := blk_frozen BK328.out 0
             have hfz33_1 := blk_frozen BK328.out 1
             go_wp2_with (first | ((with_reducible refine gate_callee (f := 56) rfl ?_); refine goesL_ (some 57) rfl rfl Tryz.func56 (by kernel_rfl) rfl #[.int .i64 (rd (rd_L5 t330 x17_1) x35_2), .int .i64 a2_0, .int .i64 a2_1] rfl amp_ ?_; (with_reducible refine (impl_within.calls (rd (rd_L5 t330 x17_1) x35_2) a2_0 a2_1 false _ A28.out).mono ?_); rintro e w' ⟨rfl, ⟨nd, rfl⟩⟩; refine ⟨_, rfl, ?_⟩))
             go_roundg kj20
             case measure => have := HK1.out; have := HK2.out; have := HJ20.out; omega
             case rel => exact ⟨(x7_2), ((rd (rd_L5 t330 x17_1) x35_2)), (wrap64 (x35_2 + 1)), rsd_, rsd_, rsd_, H', ⟨by have := HK1.out; have := HK2.out; have := HJ20.out; omega⟩, ⟨sa_ HO_15.out⟩, ⟨bk_ BK328.out⟩, ⟨bk_ BK329.out⟩, ⟨by repeat (first | (with_reducible exact HR333_0.out) | (with_reducible refine Kd.C_alloc ?_ _) | (with_reducible refine Kd.C_drewN ?_ _) | (with_reducible refine Kd.C_drew ?_) | exact HR333_0.out)⟩, ⟨bls_⟩⟩
        ·rw [if_neg c18] at H
         have c18b0 : decide (x35_2 < ((rd_L5 t330 x17_1).length : Int)) = false := decide_eq_false c18
         clear c18
         have H' := Aside0.mk H
         clear H
         go_wp2
         go_roundg k2
         case measure => have := HK1.out; have := HK2.out; omega
         case rel => exact ⟨(x7_2), (x8_2), (wrap64 (x17_1 + 1)), rsd_, rsd_, rsd_, H', ⟨by have := HK1.out; have := HK2.out; omega⟩, ⟨sa_ HO_15.out⟩, ⟨bk_ BK328.out⟩, ⟨bk_ BK329.out⟩, ⟨bls_⟩⟩
     ·replace c15 := Bool.eq_false_iff.mpr c15
      subst c15
      replace H : (impl_otherOf.l0 k1 x7_1 x8_1 t330 (t330.length : Int) (wrap64 (x17_1 + 1)) a2_0 a2_1) = some (r1, r2) := by rw [if_neg (show ¬ (false = true) by decide)] at H; exact H
      have H' := Aside0.mk H
      clear H
      have p333 : 0 ≤ (x17_1 : Int) := odt_
      have q333 : x17_1 < (t330.length : Int) := odt_
      obtain ⟨ad333, A333_0, c333_0, e333, hx333_0, hl333_0, hi333_0⟩ := at_L5 (Kd.S_reads' HO_15.out).2.2 x17_1 p333 q333
      cases e333
      obtain ⟨ce333, hce333, hMe333, hcc333⟩ := Kd.S_get HO_15.out [] x17_1 p333 (by first | exact q333 | exact odt_ | (have e_ := (Kd.S_reads' HO_15.out).1; omega))
      obtain ⟨ve333_0, rfl, ge333_0⟩ := hMe333
      have hv333_0 := hcc333 0 _ rfl
      rw [Nat.add_zero, show ((Kd.slice 3 (Kd.int .i64))).sz = 1 from rfl, Nat.mul_one] at hv333_0
      replace hv333_0 := Option.some.inj (hv333_0.symm.trans hx333_0)
      rw [hv333_0] at ge333_0
      have HL333_0 := Aside0.mk (show Kd.R (Kd.int .i64) 3 _ _ _ _ (rd_L5 t330 x17_1) from ge333_0)
      clear hv333_0 ge333_0
      clear hcc333 hce333
      have HR333_0 := Aside0.mk hi333_0
      have HC333_0 := Aside0.mk hl333_0
      clear hi333_0 hl333_0
      replace p333 := eq_true p333
      replace q333 := eq_true q333
      have hnb34 := NB328_329.out
      have hnc34 := NB329_328.out
      have hcz35_0 := blc_ (.int .i64 a2_0) BK328 0
      have hcz35_1 := blc_ (.int .i64 a2_1) BK328 1
      have hfz35_0 := blk_frozen BK328.out 0
      have hfz35_1 := blk_frozen BK328.out 1
      go_wp2_with (first | ((with_reducible refine gate_callee (f := 60) rfl ?_); refine goesL_ (some 24) rfl rfl Tryz.func60 (by kernel_rfl) rfl #[.slice A333_0 (rd_L5 t330 x17_1).length c333_0, .int .i64 a2_0] rfl amp_ ?_; (with_reducible refine (slices_Contains_int_int.calls k1 _ _ (rd_L5 t330 x17_1) a2_0 true _ ?side1 ?side2 A12.out).mono ?_); (case side1 => repeat (first | exact (by repeat (first | (with_reducible exact HR333_0.out) | (with_reducible refine Kd.C_alloc ?_ _) | (with_reducible refine Kd.C_drewN ?_ _) | (with_reducible refine Kd.C_drew ?_) | exact HR333_0.out)) | (with_reducible refine Kd.C_alloc ?_ _) | (with_reducible refine Kd.C_drewN ?_ _) | (with_reducible refine Kd.C_drew ?_))); (case side2 => exact HC333_0.out); rintro e w' ⟨rfl, ⟨nd, rfl⟩⟩; refine ⟨_, rfl, ?_⟩) | (go_at_call 60; (with_reducible refine (slices_Contains_int_int.calls k1 _ _ (rd_L5 t330 x17_1) a2_1 false _ ?side1 ?side2 A14.out).mono ?_); (case side1 => repeat (first | exact (by repeat (first | (with_reducible exact HR333_0.out) | (with_reducible refine Kd.C_alloc ?_ _) | (with_reducible refine Kd.C_drewN ?_ _) | (with_reducible refine Kd.C_drew ?_) | exact HR333_0.out)) | (with_reducible refine Kd.C_alloc ?_ _) | (with_reducible refine Kd.C_drewN ?_ _) | (with_reducible refine Kd.C_drew ?_))); (case side2 => exact HC333_0.out); rintro e w' ⟨rfl, ⟨nd, rfl⟩⟩))
      go_roundg k1
      case measure => have := HK1.out; omega
      case rel => exact ⟨(x7_1), (x8_1), (wrap64 (x17_1 + 1)), rsd_, rsd_, rsd_, H', ⟨by have := HK1.out; omega⟩, ⟨sa_ HO_15.out⟩, ⟨bk_ BK328.out⟩, ⟨bk_ BK329.out⟩, ⟨bls_⟩⟩
    ·replace c13 := Bool.eq_false_iff.mpr c13
     subst c13
     replace H : (impl_otherOf.l0 k1 x7_1 x8_1 t330 (t330.length : Int) (wrap64 (x17_1 + 1)) a2_0 a2_1) = some (r1, r2) := by rw [if_neg (show ¬ (false = true) by decide)] at H; exact H
     have H' := Aside0.mk H
     clear H
     have p333 : 0 ≤ (x17_1 : Int) := odt_
     have q333 : x17_1 < (t330.length : Int) := odt_
     obtain ⟨ad333, A333_0, c333_0, e333, hx333_0, hl333_0, hi333_0⟩ := at_L5 (Kd.S_reads' HO_15.out).2.2 x17_1 p333 q333
     cases e333
     obtain ⟨ce333, hce333, hMe333, hcc333⟩ := Kd.S_get HO_15.out [] x17_1 p333 (by first | exact q333 | exact odt_ | (have e_ := (Kd.S_reads' HO_15.out).1; omega))
     obtain ⟨ve333_0, rfl, ge333_0⟩ := hMe333
     have hv333_0 := hcc333 0 _ rfl
     rw [Nat.add_zero, show ((Kd.slice 3 (Kd.int .i64))).sz = 1 from rfl, Nat.mul_one] at hv333_0
     replace hv333_0 := Option.some.inj (hv333_0.symm.trans hx333_0)
     rw [hv333_0] at ge333_0
     have HL333_0 := Aside0.mk (show Kd.R (Kd.int .i64) 3 _ _ _ _ (rd_L5 t330 x17_1) from ge333_0)
     clear hv333_0 ge333_0
     clear hcc333 hce333
     have HR333_0 := Aside0.mk hi333_0
     have HC333_0 := Aside0.mk hl333_0
     clear hi333_0 hl333_0
     replace p333 := eq_true p333
     replace q333 := eq_true q333
     have hnb36 := NB328_329.out
     have hnc36 := NB329_328.out
     have hcz37_0 := blc_ (.int .i64 a2_0) BK328 0
     have hcz37_1 := blc_ (.int .i64 a2_1) BK328 1
     have hfz37_0 := blk_frozen BK328.out 0
     have hfz37_1 := blk_frozen BK328.out 1
     go_wp2_with (first | ((with_reducible refine gate_callee (f := 60) rfl ?_); refine goesL_ (some 24) rfl rfl Tryz.func60 (by kernel_rfl) rfl #[.slice A333_0 (rd_L5 t330 x17_1).length c333_0, .int .i64 a2_0] rfl amp_ ?_; (with_reducible refine (slices_Contains_int_int.calls k1 _ _ (rd_L5 t330 x17_1) a2_0 false _ ?side1 ?side2 A12.out).mono ?_); (case side1 => repeat (first | exact (by repeat (first | (with_reducible exact HR333_0.out) | (with_reducible refine Kd.C_alloc ?_ _) | (with_reducible refine Kd.C_drewN ?_ _) | (with_reducible refine Kd.C_drew ?_) | exact HR333_0.out)) | (with_reducible refine Kd.C_alloc ?_ _) | (with_reducible refine Kd.C_drewN ?_ _) | (with_reducible refine Kd.C_drew ?_))); (case side2 => exact HC333_0.out); rintro e w' ⟨rfl, ⟨nd, rfl⟩⟩; refine ⟨_, rfl, ?_⟩))
     go_roundg k1
     case measure => have := HK1.out; omega
     case rel => exact ⟨(x7_1), (x8_1), (wrap64 (x17_1 + 1)), rsd_, rsd_, rsd_, H', ⟨by have := HK1.out; omega⟩, ⟨sa_ HO_15.out⟩, ⟨bk_ BK328.out⟩, ⟨bk_ BK329.out⟩, ⟨bls_⟩⟩
   ·rw [if_neg c9] at H
    have c9b0 : decide (x17_1 < (t330.length : Int)) = false := decide_eq_false c9
    clear c9
    obtain ⟨ji38, hji38⟩ : ∃ j_ : Int, (mn x7_1 x8_1) = j_ := ⟨_, rfl⟩
    replace H : (some (ji38, mx x7_1 x8_1)) = some (r1, r2) := by first | (rw [hji38] at H; exact H) | (simp only [hji38] at H ⊢; exact H)
    have hji38_ : (if x8_1 < x7_1 then x8_1 else x7_1) = ji38 := hji38
    obtain ⟨ji39, hji39⟩ : ∃ j_ : Int, (mx x7_1 x8_1) = j_ := ⟨_, rfl⟩
    replace H : (some (ji38, ji39)) = some (r1, r2) := by first | (rw [hji39] at H; exact H) | (simp only [hji39] at H ⊢; exact H)
    have hji39_ : (if x7_1 < x8_1 then x8_1 else x7_1) = ji39 := hji39
    simp only [Option.some.injEq, Prod.mk.injEq] at H
    obtain ⟨rfl, rfl⟩ := H
    have hnb40 := NB329_328.out
    have hnc40 := NB328_329.out
    have hcz41_0 := blc_ (.int .i64 0) BK329 0
    have hcz41_1 := blc_ (.int .i64 0) BK329 1
    have hfz41_0 := blk_frozen BK329.out 0
    have hfz41_1 := blk_frozen BK329.out 1
    go_wp2
    refine bodyPost_ret (results_cell_row rfl _ _ gb329 38 #[.int .i64 ji38, .int .i64 ji39] (0, 0) _ rfl (by (with_reducible repeat (first | refine blk_drewN ?_ _ | refine blk_drew ?_ | refine blk_alloc ?_ _)); refine blk_put (cs := #[.int .i64 ji38, .int .i64 0]) ?_ 1 _ rfl; (with_reducible repeat (first | refine blk_drewN ?_ _ | refine blk_drew ?_ | refine blk_alloc ?_ _)); refine blk_put (cs := #[.int .i64 0, .int .i64 0]) ?_ 0 _ rfl; (with_reducible repeat (first | refine blk_drewN ?_ _ | refine blk_drew ?_ | refine blk_alloc ?_ _)); exact BK329.out) Tryz.underlying38 rfl (by kernel_rfl)) rfl ?_
    exact ⟨by first | rfl | (simp [errW_none, errW_some] <;> rfl) | (simp only [← hji38, ← hji39]; first | rfl | (simp [errW_none, errW_some] <;> rfl)) | (simp [*, errW_none, errW_some] <;> rfl), bls_⟩

end Go.Proofs.YtgblginphicacaaGreatDoor.PFnExactCountByFlips
