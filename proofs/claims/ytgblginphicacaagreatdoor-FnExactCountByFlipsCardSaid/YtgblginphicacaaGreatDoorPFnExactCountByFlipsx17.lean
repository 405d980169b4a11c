-- WRITTEN BY A PROGRAM OF THIS WORK (wip/tools/ppatch.py) for this claim.
import Derived.Test.YtgblginphicacaaGreatDoorPFnExactCountByFlipsx0
import Derived.Test.YtgblginphicacaaGreatDoorPFnExactCountByFlipsx11
namespace Go.Proofs.YtgblginphicacaaGreatDoor.PFnExactCountByFlips
open Go.RowKit Go.Proofs.YtgblginphicacaaGreatDoorW.PrintWords Go.Proofs.YtgblginphicacaaGreatDoorW.PrintLast Go.Proofs.YtgblginphicacaaGreatDoorW.PrintMore
attribute [local go_sem] max2_int min2_int max_two min_two max_three min_three max_four min_four   -- for this text's walks alone
set_option linter.unusedVariables false
set_option linter.unusedSimpArgs false

-- TOLD FOR impl_Diagonal_71_s3: slices.insertionSortCmpFunc[impl.Diagonal] | impl.compareDiagonals
/-! ### impl_Diagonal_71_s3: function 100003 -/
mutual
def impl_Diagonal_71_s3.l0 : Nat → List (S38) → Int → Int → Int → Option ((List (S38)))
 | 0, _, _, _, _ => none
 | k + 1, x0, x1, x2, x8 => if x8 < x2 then (impl_Diagonal_71_s3.l1 k x0 x1 x2 x8 x8) else (some x0)
def impl_Diagonal_71_s3.l1 : Nat → List (S38) → Int → Int → Int → Int → Option ((List (S38)))
 | 0, _, _, _, _, _ => none
 | k + 1, x0, x1, x2, x8, x9 => if x9 > x1 then (if 0 ≤ x9 then (if x9 < (x0.length : Int) then (if 0 ≤ (wrap64 (x9 - 1)) then (if (wrap64 (x9 - 1)) < (x0.length : Int) then ((impl_compareDiagonals.f k ((rd_T38 x0 x9).f0) ((rd_T38 x0 x9).f1) ((rd_T38 x0 (wrap64 (x9 - 1))).f0) ((rd_T38 x0 (wrap64 (x9 - 1))).f1)).bind fun t340 => (if t340 < 0 then (impl_Diagonal_71_s3.l1 k ((x0.set (x9 : Int).toNat (⟨(rd_T38 x0 (wrap64 (x9 - 1))).f0, (rd_T38 x0 (wrap64 (x9 - 1))).f1⟩ : S38)).set ((wrap64 (x9 - 1)) : Int).toNat (⟨(rd_T38 x0 x9).f0, (rd_T38 x0 x9).f1⟩ : S38)) x1 x2 x8 (wrap64 (x9 - 1))) else (impl_Diagonal_71_s3.l0 k x0 x1 x2 (wrap64 (x8 + 1))))) else (none)) else (none)) else (none)) else (none)) else (impl_Diagonal_71_s3.l0 k x0 x1 x2 (wrap64 (x8 + 1)))
end
def impl_Diagonal_71_s3.f (k : Nat) (l0 : List (S38)) (a1 : Int) (a2 : Int)  : Option ((List (S38))) := impl_Diagonal_71_s3.l0 k l0 a1 a2 (wrap64 (a1 + 1))
theorem impl_Diagonal_71_s3.mono_l : ∀ k, (∀ y0 y1 y2 y3, LeO (impl_Diagonal_71_s3.l0 k y0 y1 y2 y3) (impl_Diagonal_71_s3.l0 (k + 1) y0 y1 y2 y3)) ∧ (∀ y0 y1 y2 y3 y4, LeO (impl_Diagonal_71_s3.l1 k y0 y1 y2 y3 y4) (impl_Diagonal_71_s3.l1 (k + 1) y0 y1 y2 y3 y4))
 | 0 => ⟨fun _ _ _ _ r h => by simp [impl_Diagonal_71_s3.l0] at h, fun _ _ _ _ _ r h => by simp [impl_Diagonal_71_s3.l1] at h⟩
 | k + 1 => by
  obtain ⟨ih0, ih1⟩ := impl_Diagonal_71_s3.mono_l k
  refine ⟨?_, ?_⟩
  ·intro y0 y1 y2 y3
   unfold impl_Diagonal_71_s3.l0
   repeat' first
   | (with_reducible exact ih0 _ _ _ _)
   | (with_reducible exact ih1 _ _ _ _ _)
   | (with_reducible exact impl_compareDiagonals.mono _ _ _ _ _)
   | (with_reducible exact LeO.refl _)
   | (with_reducible exact LeO.none _)
   | (with_reducible refine LeO.ite ?_ ?_)
   | (with_reducible refine LeO.bind ?_ (fun _ => ?_))
   | exact ih0 _ _ _ _
   | exact ih1 _ _ _ _ _
   | exact impl_compareDiagonals.mono _ _ _ _ _
   | exact LeO.none _
   | refine LeO.ite ?_ ?_
   | refine LeO.bind ?_ (fun _ => ?_)
  ·intro y0 y1 y2 y3 y4
   unfold impl_Diagonal_71_s3.l1
   repeat' first
   | (with_reducible exact ih0 _ _ _ _)
   | (with_reducible exact ih1 _ _ _ _ _)
   | (with_reducible exact impl_compareDiagonals.mono _ _ _ _ _)
   | (with_reducible exact LeO.refl _)
   | (with_reducible exact LeO.none _)
   | (with_reducible refine LeO.ite ?_ ?_)
   | (with_reducible refine LeO.bind ?_ (fun _ => ?_))
   | exact ih0 _ _ _ _
   | exact ih1 _ _ _ _ _
   | exact impl_compareDiagonals.mono _ _ _ _ _
   | exact LeO.none _
   | refine LeO.ite ?_ ?_
   | refine LeO.bind ?_ (fun _ => ?_)
theorem impl_Diagonal_71_s3.mono : ∀ a0 a1 a2 k, LeO (impl_Diagonal_71_s3.f k a0 a1 a2) (impl_Diagonal_71_s3.f (k + 1) a0 a1 a2) := by
 intro a0 a1 a2 k
 obtain ⟨ih0, ih1⟩ := impl_Diagonal_71_s3.mono_l k
 unfold impl_Diagonal_71_s3.f
 repeat' first
   | (with_reducible exact ih0 _ _ _ _)
   | (with_reducible exact ih1 _ _ _ _ _)
   | (with_reducible exact impl_compareDiagonals.mono _ _ _ _ _)
   | (with_reducible exact LeO.refl _)
   | (with_reducible exact LeO.none _)
   | (with_reducible refine LeO.ite ?_ ?_)
   | (with_reducible refine LeO.bind ?_ (fun _ => ?_))
   | exact ih0 _ _ _ _
   | exact ih1 _ _ _ _ _
   | exact impl_compareDiagonals.mono _ _ _ _ _
   | exact LeO.none _
   | refine LeO.ite ?_ ?_
   | refine LeO.bind ?_ (fun _ => ?_)
def impl_Diagonal_71_s3.T4 : Bool × List (List Nat × List Nat) := (true, [([], []), ([], []), ([0, 1], [0, 1]), ([2], [2]), ([3], [3]), ([3], [3]), ([3], [3]), ([5, 6, 3], [3, 5, 6]), ([7, 3], [3, 7]), ([3], [3]), ([3], [3]), ([10, 3], [3, 10]), ([9, 11, 3], [3, 9, 11]), ([12, 3], [3, 12]), ([4, 8, 13, 3, 3], [3, 4, 8, 13]), ([14, 3], [3, 14]), ([3, 15], [3, 15])])
def impl_Diagonal_71_s3.B4 : List Nat := [0, 0, 3, 7, 15, 15, 15, 111, 239, 15, 15, 1039, 3599, 7695, 16383, 32767, 65535]
theorem impl_Diagonal_71_s3.tab4 : rtab .any (opsOf Tryz.f71 4) = impl_Diagonal_71_s3.T4 := by kernel_rfl
theorem impl_Diagonal_71_s3.bits4 : waitsOk impl_Diagonal_71_s3.T4.2 impl_Diagonal_71_s3.B4 = true := by kernel_rfl
def impl_Diagonal_71_s3.T6 : Bool × List (List Nat × List Nat) := (true, [([], []), ([], []), ([], []), ([], []), ([3], [3]), ([], []), ([], []), ([6], [6]), ([5, 7], [5, 7]), ([8], [8]), ([], []), ([], []), ([10, 11], [10, 11]), ([12], [12]), ([0, 1, 0, 1, 5, 6, 7, 8, 9, 13], [0, 1]), ([14, 9, 0, 1, 5, 6, 7, 8, 9, 13], [9, 14]), ([2, 4, 0, 1, 2, 3, 4, 5, 6, 7, 8, 9, 10, 11, 12, 13, 14, 15], [2, 4]), ([16, 13, 15, 0, 1, 2, 3, 4, 5, 6, 7, 8, 9, 10, 11, 12, 13, 14, 15], [13, 16])])
def impl_Diagonal_71_s3.B6 : List Nat := [0, 0, 0, 0, 8, 0, 0, 64, 224, 480, 0, 0, 3072, 7168, 16355, 32739, 65535, 131071]
theorem impl_Diagonal_71_s3.tab6 : rtab .any (opsOf Tryz.f71 6) = impl_Diagonal_71_s3.T6 := by kernel_rfl
theorem impl_Diagonal_71_s3.bits6 : waitsOk impl_Diagonal_71_s3.T6.2 impl_Diagonal_71_s3.B6 = true := by kernel_rfl
set_option maxHeartbeats 8000000 in
set_option maxRecDepth 100000 in
theorem impl_Diagonal_71_s3.calls (k : Nat) (P0_ : Nat → Prop) (u9000_ : Value) (l0 : List (S38)) (a1 : Int) (a2 : Int)  (r : List (S38)) (w0 w : World) (hB : Below w0.heap.size w0 w) (ho0 : Kd.R k38 38 w w0.heap.size P0_ u9000_ l0) (h : impl_Diagonal_71_s3.f k l0 a1 a2 = some r) :
  Calls Tryz.prog 71 #[u9000_, .int .i64 a1, .int .i64 a2, .func (.func 43) #[] #[]] w fun e w' => e = .returned (.tuple #[]) ∧ Kd.R k38 38 w' w0.heap.size (fun k_ => (P0_ k_ ∨ w.heap.size ≤ k_)) u9000_ r ∧ Below w0.heap.size w0 w' ∧ Kept w w' (fun k_ => P0_ k_) := by
 have hu38 := Tryz.underlying38
 have HO0 := Aside0.mk (show Kd.R k38 38 w w0.heap.size (fun k_ => (P0_ k_ ∨ w.heap.size ≤ k_)) u9000_ l0 from Kd.R_mono ho0 (fun k_ hk => (.inl hk)))
 have HK := Aside0.mk (Kept.refl w (fun k_ => P0_ k_))
 have HW0 := Aside0.mk hB.size
 have HB := Aside0.mk hB
 clear hB
 have H : (impl_Diagonal_71_s3.l0 k l0 a1 a2 (wrap64 (a1 + 1))) = some r := h
 clear h
 have H' := Aside0.mk H
 clear H
 go_enter Tryz.func71, Tryz.ntmps71
 go_wp2
 go_loopg [8] k (fun kq v8 w' => ∃ (x0_1 : List (S38)) (x8_1 : Int), v8 = .int .i64 x8_1 ∧ Aside0 (impl_Diagonal_71_s3.l0 kq x0_1 a1 a2 x8_1 = some r) ∧ Aside0 (kq ≤ k) ∧ Aside0 (Kd.R k38 38 w' w0.heap.size (fun k_ => (P0_ k_ ∨ w.heap.size ≤ k_)) u9000_ x0_1) ∧ Aside0 (Kept w w' (fun k_ => P0_ k_)) ∧ Aside0 (Below w0.heap.size w0 w'))
 case atStart => exact ⟨(l0), (wrap64 (a1 + 1)), rsd_, H', ⟨Nat.le_refl _⟩, ⟨ra_ HO0.out⟩, ⟨by repeat (first | (with_reducible first | exact HK.out | apply Kept.alloc | apply Kept.drewN | apply Kept.drew) | exact HK.out)⟩, ⟨blw_⟩⟩
 case round =>
  clear H'
  try clear p2
  try clear HO_0
  obtain ⟨x0_1, x8_1, rfl, HA, HK1, HO_0, HK, HB⟩ := hrel
  cases gk with
  | zero => exact absurd HA.out (by simp [impl_Diagonal_71_s3.l0])
  | succ k1 =>
   have H := HA.out
   clear HA
   simp only [impl_Diagonal_71_s3.l0] at H
   by_cases c5 : x8_1 < a2
   ·rw [if_pos c5] at H
    have c5b0 : decide (x8_1 < a2) = true := decide_eq_true c5
    clear c5
    have H' := Aside0.mk H
    clear H
    go_wp2
    go_loopg [9] k1 (fun kq v9 w' => ∃ (x0_2 : List (S38)) (x9_2 : Int), v9 = .int .i64 x9_2 ∧ Aside0 (impl_Diagonal_71_s3.l1 kq x0_2 a1 a2 x8_1 x9_2 = some r) ∧ Aside0 (kq ≤ k1) ∧ Aside0 (Kd.R k38 38 w' w0.heap.size (fun k_ => (P0_ k_ ∨ w.heap.size ≤ k_)) u9000_ x0_2) ∧ Aside0 (Kept w w' (fun k_ => P0_ k_)) ∧ Aside0 (Below w0.heap.size w0 w'))
    case atStart => exact ⟨(x0_1), (x8_1), rsd_, H', ⟨Nat.le_refl _⟩, ⟨ra_ HO_0.out⟩, ⟨by repeat (first | (with_reducible first | exact HK.out | apply Kept.alloc | apply Kept.drewN | apply Kept.drew) | exact HK.out)⟩, ⟨blw_⟩⟩
    case round =>
     clear H'
     try clear p2
     try clear c5
     try clear c5b0
     try clear p2
     try clear HO_0
     obtain ⟨x0_2, x9_2, rfl, HA, HK2, HO_0, HK, HB⟩ := hrel
     cases gk with
     | zero => exact absurd HA.out (by simp [impl_Diagonal_71_s3.l1])
     | succ k2 =>
      have H := HA.out
      clear HA
      simp only [impl_Diagonal_71_s3.l1] at H
      by_cases c6 : x9_2 > a1
      ·rw [if_pos c6] at H
       have c6b0 : decide (a1 < x9_2) = true := decide_eq_true c6
       clear c6
       by_cases c7 : 0 ≤ x9_2
       case neg=>rw [if_neg c7] at H;exact absurd H (by simp)
       rw [if_pos c7] at H
       have c7b0 : decide (0 ≤ x9_2) = true := decide_eq_true c7
       clear c7
       by_cases c8 : x9_2 < (x0_2.length : Int)
       case neg=>rw [if_neg c8] at H;exact absurd H (by simp)
       rw [if_pos c8] at H
       have c8b0 : decide (x9_2 < (x0_2.length : Int)) = true := decide_eq_true c8
       clear c8
       obtain ⟨ji9, hji9⟩ : ∃ j_ : Int, (wrap64 (x9_2 - 1)) = j_ := ⟨_, rfl⟩
       replace H : (if 0 ≤ (ji9) then (if (ji9) < (x0_2.length : Int) then ((impl_compareDiagonals.f k2 ((rd_T38 x0_2 x9_2).f0) ((rd_T38 x0_2 x9_2).f1) ((rd_T38 x0_2 (ji9)).f0) ((rd_T38 x0_2 (ji9)).f1)).bind fun t340 => (if t340 < 0 then (impl_Diagonal_71_s3.l1 k2 ((x0_2.set (x9_2 : Int).toNat (⟨(rd_T38 x0_2 (ji9)).f0, (rd_T38 x0_2 (ji9)).f1⟩ : S38)).set ((ji9) : Int).toNat (⟨(rd_T38 x0_2 x9_2).f0, (rd_T38 x0_2 x9_2).f1⟩ : S38)) a1 a2 x8_1 ji9) else (impl_Diagonal_71_s3.l0 k2 x0_2 a1 a2 (wrap64 (x8_1 + 1))))) else (none)) else (none)) = some r := by first | (rw [hji9] at H; exact H) | (simp only [hji9] at H ⊢; exact H)
       have hji9w : (IntKind.i64.wrap (x9_2 - 1)) = ji9 := (i64_w _).trans hji9
       by_cases c10 : 0 ≤ (ji9)
       case neg=>rw [if_neg c10] at H;exact absurd H (by simp)
       rw [if_pos c10] at H
       have c10b0 : decide (0 ≤ (ji9)) = true := decide_eq_true c10
       clear c10
       by_cases c11 : (ji9) < (x0_2.length : Int)
       case neg=>rw [if_neg c11] at H;exact absurd H (by simp)
       rw [if_pos c11] at H
       have c11b0 : decide ((ji9) < (x0_2.length : Int)) = true := decide_eq_true c11
       clear c11
       replace H := Option.bind_eq_some_iff.mp H
       obtain ⟨t340, A120, H⟩ := H
       replace H : (if t340 < 0 then (impl_Diagonal_71_s3.l1 k2 ((x0_2.set (x9_2 : Int).toNat (⟨(rd_T38 x0_2 (ji9)).f0, (rd_T38 x0_2 (ji9)).f1⟩ : S38)).set ((ji9) : Int).toNat (⟨(rd_T38 x0_2 x9_2).f0, (rd_T38 x0_2 x9_2).f1⟩ : S38)) a1 a2 x8_1 ji9) else (impl_Diagonal_71_s3.l0 k2 x0_2 a1 a2 (wrap64 (x8_1 + 1)))) = some r := H
       have A12 := Aside0.mk A120
       clear A120
       by_cases c13 : t340 < 0
       ·rw [if_pos c13] at H
        have c13b0 : decide (t340 < 0) = true := decide_eq_true c13
        clear c13
        obtain ⟨y343, hy343⟩ : ∃ y_ : List (S38), y_ = (x0_2.set (x9_2 : Int).toNat (⟨(rd_T38 x0_2 (ji9)).f0, (rd_T38 x0_2 (ji9)).f1⟩ : S38)) := ⟨_, rfl⟩
        replace H : (impl_Diagonal_71_s3.l1 k2 (y343.set ((ji9) : Int).toNat (⟨(rd_T38 x0_2 x9_2).f0, (rd_T38 x0_2 x9_2).f1⟩ : S38)) a1 a2 x8_1 ji9) = some r := hyy_ hy343 H
        have Ny343 := Aside0.mk hy343
        clear hy343
        obtain ⟨y344, hy344⟩ : ∃ y_ : List (S38), y_ = (y343.set ((ji9) : Int).toNat (⟨(rd_T38 x0_2 x9_2).f0, (rd_T38 x0_2 x9_2).f1⟩ : S38)) := ⟨_, rfl⟩
        replace H : (impl_Diagonal_71_s3.l1 k2 y344 a1 a2 x8_1 ji9) = some r := hyy_ hy344 H
        have Ny344 := Aside0.mk hy344
        clear hy344
        have H' := Aside0.mk H
        clear H
        try go_wp2
        replace HO_0 := Aside0.mk (Kd.R_drew HO_0.out)
        replace HK := Aside0.mk (Kept.drew HK.out)
        replace HB := Aside0.mk (below_drew1 HB.out)
        obtain ⟨Ao17, co17, eo17⟩ := Kd.R_slice HO_0.out
        (first | subst eo17 | (injection eo17 with f1_ f2_ f3_; have f4_ := f1_.symm; have f5_ := f3_.symm; clear f1_ f2_ f3_; subst f4_; subst f5_))
        have p338 : 0 ≤ (x9_2 : Int) := odt_
        have q338 : x9_2 < (x0_2.length : Int) := odt_
        obtain ⟨ad338, e338, hx338_0, hx338_1⟩ := at_T38 (Kd.R_reads' HO_0.out).2.2 x9_2 p338 q338
        cases e338
        replace p338 := eq_true p338
        replace q338 := eq_true q338
        have p339 : 0 ≤ ((ji9) : Int) := odt_
        have q339 : (ji9) < (x0_2.length : Int) := odt_
        obtain ⟨ad339, e339, hx339_0, hx339_1⟩ := at_T38 (Kd.R_reads' HO_0.out).2.2 (ji9) p339 q339
        obtain rfl : ad338 = ad339 := (by injection e339)
        replace p339 := eq_true p339
        replace q339 := eq_true q339
        refine start_ (n := 17) (S := fun w' => w'.cell? (ad338.add ((x9_2).toNat * 2)) = some (.int .i64 ((rd_T38 x0_2 x9_2).f0)) ∧ w'.cell? ⟨(ad338.add ((x9_2).toNat * 2)).block, (ad338.add ((x9_2).toNat * 2)).off + 1, none⟩ = some (.int .i64 ((rd_T38 x0_2 x9_2).f1)) ∧ w'.cell? (ad338.add (((ji9)).toNat * 2)) = some (.int .i64 ((rd_T38 x0_2 (ji9)).f0)) ∧ w'.cell? ⟨(ad338.add (((ji9)).toNat * 2)).block, (ad338.add (((ji9)).toNat * 2)).off + 1, none⟩ = some (.int .i64 ((rd_T38 x0_2 (ji9)).f1))) (ds := []) #[false, false, false, false, false, false, false, false, false, false, false, false, false, false, false, false, false] (by kernel_rfl) rfl rfl ⟨hx338_0, hx338_1, hx339_0, hx339_1⟩ (fun hHeld => ?_); refine with_tabW impl_Diagonal_71_s3.tab4 impl_Diagonal_71_s3.bits4 (fun HT_ HW_ => ?_)
        generalize wr.drew = w16 at HO_0 HK HB hx338_0 hx338_1 hx339_0 hx339_1 hHeld ⊢
        refine pux_ 0 18 HT_ ?_
        refine pux_ 1 19 HT_ ?_
        refine pux_ 2 20 HT_ ?_
        refine pux_ 3 21 HT_ ?_
        refine pux_ 4 22 HT_ ?_
        refine pux_ 5 23 HT_ ?_
        refine pux_ 6 24 HT_ ?_
        refine pux_ 7 25 HT_ ?_
        refine pux_ 9 27 HT_ ?_
        refine pux_ 10 28 HT_ ?_
        refine pux_ 11 29 HT_ ?_
        refine pux_ 12 30 HT_ ?_
        refine tak_ 8 26 HT_ HW_ hHeld ?_
        refine tak_ 13 31 HT_ HW_ hHeld ?_
        refine oner_ 14 32 HT_ (fun K hK => ?_)
        refine goesV_ (hc := by rfl) Tryz.func43 (by kernel_rfl) rfl #[.agg #[.int .i64 ((rd_T38 x0_2 x9_2).f0), .int .i64 ((rd_T38 x0_2 x9_2).f1)], .agg #[.int .i64 ((rd_T38 x0_2 (ji9)).f0), .int .i64 ((rd_T38 x0_2 (ji9)).f1)]] (by rfl) rfl rfl (by (try simp only [List.map_toArray, List.map_cons, List.map_nil]); first | done | (simp only [hji9]; rfl) | rfl | (simp only [List.length_drop, List.length_take]; rfl)) ?_
        with_reducible refine (impl_compareDiagonals.calls k2 ((rd_T38 x0_2 x9_2).f0) ((rd_T38 x0_2 x9_2).f1) ((rd_T38 x0_2 (ji9)).f0) ((rd_T38 x0_2 (ji9)).f1) t340 _ A12.out).mono ?_
        rintro e w18 ⟨rfl, hb⟩
        have HS0_ := (hb.cell (World.block_lt_of_cell? _ _ (hHeld.1))).trans (hHeld.1)
        have HS1_ := (hb.cell (World.block_lt_of_cell? _ _ (hHeld.2.1))).trans (hHeld.2.1)
        have HS2_ := (hb.cell (World.block_lt_of_cell? _ _ (hHeld.2.2.1))).trans (hHeld.2.2.1)
        have HS3_ := (hb.cell (World.block_lt_of_cell? _ _ (hHeld.2.2.2))).trans (hHeld.2.2.2)
        refine ⟨_, rfl, ?_⟩
        (try replace hb := Drawn0.below hb)
        replace HO_0 := Aside0.mk (Kd.R_below (ra_ HO_0.out) hb)
        replace HK := Aside0.mk (Kept.below (S := (fun k_ => P0_ k_)) (by repeat (first | (with_reducible first | exact HK.out | apply Kept.alloc | apply Kept.drewN | apply Kept.drew) | exact HK.out)) hb)
        replace HB := Aside0.mk (below_step blw_ hb)
        (try clear hb)
        (try clear hb2)
        (try clear hk)
        (try clear hi)
        refine hK.out _ _ ⟨HS0_, HS1_, HS2_, HS3_⟩ (fun hHeld => ?_)
        clear hK K
        refine nor_ 32 ?_
        refine pux_ 15 33 HT_ ?_
        refine pux_ 16 34 HT_ ?_
        refine done_ (done_of HT_.out (by kernel_rfl)) ?_
        try go_wp2
        replace HO_0 := Aside0.mk (Kd.R_drew HO_0.out)
        replace HK := Aside0.mk (Kept.drew HK.out)
        replace HB := Aside0.mk (below_drew1 HB.out)
        have p341 : 0 ≤ ((ji9) : Int) := odt_
        have q341 : (ji9) < (x0_2.length : Int) := odt_
        obtain ⟨ad341, e341, hx341_0, hx341_1⟩ := at_T38 (Kd.R_reads' HO_0.out).2.2 (ji9) p341 q341
        obtain rfl : ad338 = ad341 := (by injection e341)
        replace p341 := eq_true p341
        replace q341 := eq_true q341
        have p342 : 0 ≤ (x9_2 : Int) := odt_
        have q342 : x9_2 < (x0_2.length : Int) := odt_
        obtain ⟨ad342, e342, hx342_0, hx342_1⟩ := at_T38 (Kd.R_reads' HO_0.out).2.2 x9_2 p342 q342
        obtain rfl : ad338 = ad342 := (by injection e342)
        replace p342 := eq_true p342
        replace q342 := eq_true q342
        have p14 : 0 ≤ (x9_2 : Int) := odt_
        have q14 : (x9_2 : Int) < ((x0_2.length : Int) : Int) := odt_
        obtain ⟨go14, co14, eo14, gb14, gl14, cl14, HG14⟩ := Kd.R_form HO_0.out (by omega)
        (first | cases eo14 | (injection eo14 with ea_ en_ ec_; (first | subst ea_ | (injection ea_ with ea_; subst ea_)); subst ec_; clear en_))
        have GB14 := Aside0.mk gb14
        have GG14 := Aside0.mk HG14
        clear gb14 gl14 HG14
        have HMgo14 := Aside0.mk (show (P0_ go14 ∨ w.heap.size ≤ go14) from (HO_0.out.1 _ rfl))
        (first | simp only [add_plain] at hx338_0 | skip)
        (first | simp only [add_plain] at hx338_1 | skip)
        (first | simp only [add_plain] at hx339_0 | skip)
        (first | simp only [add_plain] at hx339_1 | skip)
        (first | simp only [add_plain] at hx341_0 | skip)
        (first | simp only [add_plain] at hx341_1 | skip)
        (first | simp only [add_plain] at hx342_0 | skip)
        (first | simp only [add_plain] at hx342_1 | skip)
        obtain ⟨ce14, hcl14, hM14, hcc14, hfr14⟩ := Kd.R_elem HO_0.out z38 (x9_2 : Int) p14 q14
        obtain rfl := k38_openM hM14
        have hx14_0 : World.cell? _ ⟨go14, (x9_2 : Int).toNat * 2, none⟩ = some (.int .i64 ((rd_T38 x0_2 x9_2).f0)) := hcc14 0 _ rfl
        have hx14_1 : World.cell? _ ⟨go14, (x9_2 : Int).toNat * 2 + 1, none⟩ = some (.int .i64 ((rd_T38 x0_2 x9_2).f1)) := hcc14 1 _ rfl
        have hf14_0 : World.frozen? _ ⟨go14, (x9_2 : Int).toNat * 2, none⟩ = false := hfr14 0
        have hf14_1 : World.frozen? _ ⟨go14, (x9_2 : Int).toNat * 2 + 1, none⟩ = false := hfr14 1
        clear hcl14 hcc14 hfr14 hM14
        replace p14 := eq_true p14
        replace q14 := eq_true q14
        obtain ⟨ce20, hcl20, hM20, hcc20, hfr20⟩ := Kd.R_elem HO_0.out z38 (x9_2 : Int) (odt_) (by have h_ : (x9_2 : Int) < ((x0_2.length : Int) : Int) := odt_; first | exact h_ | (have e_ := (Kd.R_reads' HO_0.out).1; omega) | simpa using h_)
        obtain rfl := k38_openM hM20
        have HP20 := (Kd.R_seg HO_0.out (x9_2 : Int) (odt_) (by have h_ : (x9_2 : Int) < ((x0_2.length : Int) : Int) := odt_; first | exact h_ | (have e_ := (Kd.R_reads' HO_0.out).1; omega) | simpa using h_) (seg := [.int .i64 ((rd_T38 x0_2 (ji9)).f0), .int .i64 ((rd_T38 x0_2 (ji9)).f1)]) (j := 0) hcl20 hcc20 (show 2 ≤ 2 from by decide) (x' := (⟨(rd_T38 x0_2 (ji9)).f0, (rd_T38 x0_2 (ji9)).f1⟩ : S38)) (k38_mkM _ _ _ (⟨(rd_T38 x0_2 (ji9)).f0, (rd_T38 x0_2 (ji9)).f1⟩ : S38) ) (fun _ hk => hk)).1
        rw [← Ny343.out] at HP20
        have HQ20 := Aside0.mk HP20
        clear hcl20 hcc20 hfr20 hM20 HP20
        have p15 : 0 ≤ ((ji9) : Int) := odt_
        have q15 : ((ji9) : Int) < ((x0_2.length : Int) : Int) := odt_
        obtain ⟨ce15, hcl15, hM15, hcc15, hfr15⟩ := Kd.R_elem HQ20.out z38 ((ji9) : Int) p15 q15
        obtain rfl := k38_openM hM15
        have hx15_0 : World.cell? _ ⟨go14, ((ji9) : Int).toNat * 2, none⟩ = some (.int .i64 ((rd_T38 y343 (ji9)).f0)) := hcc15 0 _ rfl
        have hx15_1 : World.cell? _ ⟨go14, ((ji9) : Int).toNat * 2 + 1, none⟩ = some (.int .i64 ((rd_T38 y343 (ji9)).f1)) := hcc15 1 _ rfl
        have hf15_0 : World.frozen? _ ⟨go14, ((ji9) : Int).toNat * 2, none⟩ = false := hfr15 0
        have hf15_1 : World.frozen? _ ⟨go14, ((ji9) : Int).toNat * 2 + 1, none⟩ = false := hfr15 1
        (try simp only [World.setCells, Nat.add_zero, show (k38).sz = 2 from rfl] at hx15_0 hx15_1 hf15_0 hf15_1)
        clear hcl15 hcc15 hfr15 hM15
        replace p15 := eq_true p15
        replace q15 := eq_true q15
        obtain ⟨ce21, hcl21, hM21, hcc21, hfr21⟩ := Kd.R_elem HQ20.out z38 ((ji9) : Int) (odt_) (by have h_ : ((ji9) : Int) < ((x0_2.length : Int) : Int) := odt_; first | exact h_ | (have e_ := (Kd.R_reads' HO_0.out).1; omega) | simpa using h_)
        obtain rfl := k38_openM hM21
        have HP21 := (Kd.R_seg HQ20.out ((ji9) : Int) (odt_) (by have h_ : ((ji9) : Int) < ((x0_2.length : Int) : Int) := odt_; first | exact h_ | (have e_ := (Kd.R_reads' HO_0.out).1; omega) | simpa using h_) (seg := [.int .i64 ((rd_T38 x0_2 x9_2).f0), .int .i64 ((rd_T38 x0_2 x9_2).f1)]) (j := 0) hcl21 hcc21 (show 2 ≤ 2 from by decide) (x' := (⟨(rd_T38 x0_2 x9_2).f0, (rd_T38 x0_2 x9_2).f1⟩ : S38)) (k38_mkM _ _ _ (⟨(rd_T38 x0_2 x9_2).f0, (rd_T38 x0_2 x9_2).f1⟩ : S38) ) (fun _ hk => hk)).1
        rw [← Ny344.out] at HP21
        have HQ21 := Aside0.mk HP21
        clear hcl21 hcc21 hfr21 hM21 HP21
        refine start_ (n := 18) (S := fun w' => w'.cell? ⟨go14, (((ji9)).toNat * 2), none⟩ = some (.int .i64 ((rd_T38 x0_2 (ji9)).f0)) ∧ w'.cell? ⟨go14, (((ji9)).toNat * 2) + 1, none⟩ = some (.int .i64 ((rd_T38 x0_2 (ji9)).f1)) ∧ w'.cell? ⟨go14, ((x9_2).toNat * 2), none⟩ = some (.int .i64 ((rd_T38 x0_2 x9_2).f0)) ∧ w'.cell? ⟨go14, ((x9_2).toNat * 2) + 1, none⟩ = some (.int .i64 ((rd_T38 x0_2 x9_2).f1))) (ds := [15, 17]) #[false, false, false, false, false, false, false, false, false, false, false, false, false, false, false, false, false, false] (by kernel_rfl) rfl rfl ⟨hx341_0, hx341_1, hx342_0, hx342_1⟩ (fun hHeld => ?_); refine with_tabW impl_Diagonal_71_s3.tab6 impl_Diagonal_71_s3.bits6 (fun HT_ HW_ => ?_)
        generalize w18.drew = w19 at HO_0 HK HB GG14 HQ20 HQ21 hf14_0 hf14_1 hf15_0 hf15_1 hx14_0 hx14_1 hx15_0 hx15_1 hx338_0 hx338_1 hx339_0 hx339_1 hx341_0 hx341_1 hx342_0 hx342_1 hHeld ⊢
        refine pux_ 0 37 HT_ ?_
        refine pux_ 1 38 HT_ ?_
        refine pux_ 2 39 HT_ ?_
        refine pux_ 3 40 HT_ ?_
        refine pux_ 4 41 HT_ ?_
        refine pux_ 5 42 HT_ ?_
        refine pux_ 6 43 HT_ ?_
        refine pux_ 7 44 HT_ ?_
        refine pux_ 8 45 HT_ ?_
        refine pux_ 10 47 HT_ ?_
        refine pux_ 11 48 HT_ ?_
        refine pux_ 12 49 HT_ ?_
        refine tak_ 9 46 HT_ HW_ hHeld ?_
        refine tak_ 13 50 HT_ HW_ hHeld ?_
        refine pux_ 14 51 HT_ ?_
        refine last_ (i := 15) (N := none) #[true, true, true, true, true, true, true, true, true, true, true, true, true, true, true, true, false, false] rfl rfl (one_of HT_.out (by kernel_rfl)) (by decide) (fun K hK => ?_)
        refine skip_ (w1 := ?_) (by rfl) rfl ?_ ?_
        rotate_left
        ·go_simp
         rfl
        refine hK.out _ _ ?_
        clear hK K
        refine pux_ 16 52 HT_ ?_
        refine last_ (i := 17) (N := none) #[true, true, true, true, true, true, true, true, true, true, true, true, true, true, true, true, true, true] rfl rfl (one_of HT_.out (by kernel_rfl)) (by decide) (fun K hK => ?_)
        refine skip_ (w1 := ?_) (by rfl) rfl ?_ ?_
        rotate_left
        ·go_simp
         rfl
        refine hK.out _ _ ?_
        clear hK K
        refine done_ (done_of HT_.out (by kernel_rfl)) ?_
        try go_wp2
        go_roundg k2
        case measure => have := HK1.out; have := HK2.out; omega
        case rel => exact ⟨(y344), (ji9), (by first | rfl | (simp; done) | (simp only [← hji9] <;> (first | rfl | simp)) | (simp [*]; done)), H', ⟨by have := HK1.out; have := HK2.out; omega⟩, ⟨ra_ HQ21.out⟩, ⟨by repeat (first | (with_reducible first | exact HK.out | apply Kept.alloc | apply Kept.drewN | apply Kept.drew | refine Kept.setCell ?_ HMgo14.out _ | refine Kept.setCell ?_ HMgo14.out _ | refine Kept.setCell ?_ HMgo14.out _ | refine Kept.setCell ?_ HMgo14.out _) | exact HK.out)⟩, ⟨by repeat (first | (with_reducible first | exact HB.out | apply below_alloc | apply pw_below_drewN | apply below_drew1 | refine below_set ?_ GB14.out | refine below_set ?_ GB14.out | refine below_set ?_ GB14.out | refine below_set ?_ GB14.out) | exact HB.out)⟩⟩
       ·rw [if_neg c13] at H
        have c13b0 : decide (t340 < 0) = false := decide_eq_false c13
        clear c13
        have H' := Aside0.mk H
        clear H
        try go_wp2
        replace HO_0 := Aside0.mk (Kd.R_drew HO_0.out)
        replace HK := Aside0.mk (Kept.drew HK.out)
        replace HB := Aside0.mk (below_drew1 HB.out)
        obtain ⟨Ao23, co23, eo23⟩ := Kd.R_slice HO_0.out
        (first | subst eo23 | (injection eo23 with f1_ f2_ f3_; have f4_ := f1_.symm; have f5_ := f3_.symm; clear f1_ f2_ f3_; subst f4_; subst f5_))
        have p338 : 0 ≤ (x9_2 : Int) := odt_
        have q338 : x9_2 < (x0_2.length : Int) := odt_
        obtain ⟨ad338, e338, hx338_0, hx338_1⟩ := at_T38 (Kd.R_reads' HO_0.out).2.2 x9_2 p338 q338
        cases e338
        replace p338 := eq_true p338
        replace q338 := eq_true q338
        have p339 : 0 ≤ ((ji9) : Int) := odt_
        have q339 : (ji9) < (x0_2.length : Int) := odt_
        obtain ⟨ad339, e339, hx339_0, hx339_1⟩ := at_T38 (Kd.R_reads' HO_0.out).2.2 (ji9) p339 q339
        obtain rfl : ad338 = ad339 := (by injection e339)
        replace p339 := eq_true p339
        replace q339 := eq_true q339
        refine start_ (n := 17) (S := fun w' => w'.cell? (ad338.add ((x9_2).toNat * 2)) = some (.int .i64 ((rd_T38 x0_2 x9_2).f0)) ∧ w'.cell? ⟨(ad338.add ((x9_2).toNat * 2)).block, (ad338.add ((x9_2).toNat * 2)).off + 1, none⟩ = some (.int .i64 ((rd_T38 x0_2 x9_2).f1)) ∧ w'.cell? (ad338.add (((ji9)).toNat * 2)) = some (.int .i64 ((rd_T38 x0_2 (ji9)).f0)) ∧ w'.cell? ⟨(ad338.add (((ji9)).toNat * 2)).block, (ad338.add (((ji9)).toNat * 2)).off + 1, none⟩ = some (.int .i64 ((rd_T38 x0_2 (ji9)).f1))) (ds := []) #[false, false, false, false, false, false, false, false, false, false, false, false, false, false, false, false, false] (by kernel_rfl) rfl rfl ⟨hx338_0, hx338_1, hx339_0, hx339_1⟩ (fun hHeld => ?_); refine with_tabW impl_Diagonal_71_s3.tab4 impl_Diagonal_71_s3.bits4 (fun HT_ HW_ => ?_)
        generalize wr.drew = w22 at HO_0 HK HB hx338_0 hx338_1 hx339_0 hx339_1 hHeld ⊢
        refine pux_ 0 18 HT_ ?_
        refine pux_ 1 19 HT_ ?_
        refine pux_ 2 20 HT_ ?_
        refine pux_ 3 21 HT_ ?_
        refine pux_ 4 22 HT_ ?_
        refine pux_ 5 23 HT_ ?_
        refine pux_ 6 24 HT_ ?_
        refine pux_ 7 25 HT_ ?_
        refine pux_ 9 27 HT_ ?_
        refine pux_ 10 28 HT_ ?_
        refine pux_ 11 29 HT_ ?_
        refine pux_ 12 30 HT_ ?_
        refine tak_ 8 26 HT_ HW_ hHeld ?_
        refine tak_ 13 31 HT_ HW_ hHeld ?_
        refine oner_ 14 32 HT_ (fun K hK => ?_)
        refine goesV_ (hc := by rfl) Tryz.func43 (by kernel_rfl) rfl #[.agg #[.int .i64 ((rd_T38 x0_2 x9_2).f0), .int .i64 ((rd_T38 x0_2 x9_2).f1)], .agg #[.int .i64 ((rd_T38 x0_2 (ji9)).f0), .int .i64 ((rd_T38 x0_2 (ji9)).f1)]] (by rfl) rfl rfl (by (try simp only [List.map_toArray, List.map_cons, List.map_nil]); first | done | (simp only [hji9]; rfl) | rfl | (simp only [List.length_drop, List.length_take]; rfl)) ?_
        with_reducible refine (impl_compareDiagonals.calls k2 ((rd_T38 x0_2 x9_2).f0) ((rd_T38 x0_2 x9_2).f1) ((rd_T38 x0_2 (ji9)).f0) ((rd_T38 x0_2 (ji9)).f1) t340 _ A12.out).mono ?_
        rintro e w24 ⟨rfl, hb⟩
        have HS0_ := (hb.cell (World.block_lt_of_cell? _ _ (hHeld.1))).trans (hHeld.1)
        have HS1_ := (hb.cell (World.block_lt_of_cell? _ _ (hHeld.2.1))).trans (hHeld.2.1)
        have HS2_ := (hb.cell (World.block_lt_of_cell? _ _ (hHeld.2.2.1))).trans (hHeld.2.2.1)
        have HS3_ := (hb.cell (World.block_lt_of_cell? _ _ (hHeld.2.2.2))).trans (hHeld.2.2.2)
        refine ⟨_, rfl, ?_⟩
        (try replace hb := Drawn0.below hb)
        replace HO_0 := Aside0.mk (Kd.R_below (ra_ HO_0.out) hb)
        replace HK := Aside0.mk (Kept.below (S := (fun k_ => P0_ k_)) (by repeat (first | (with_reducible first | exact HK.out | apply Kept.alloc | apply Kept.drewN | apply Kept.drew) | exact HK.out)) hb)
        replace HB := Aside0.mk (below_step blw_ hb)
        (try clear hb)
        (try clear hb2)
        (try clear hk)
        (try clear hi)
        refine hK.out _ _ ⟨HS0_, HS1_, HS2_, HS3_⟩ (fun hHeld => ?_)
        clear hK K
        refine nor_ 32 ?_
        refine pux_ 15 33 HT_ ?_
        refine pux_ 16 34 HT_ ?_
        refine done_ (done_of HT_.out (by kernel_rfl)) ?_
        try go_wp2
        go_roundg k2
        case measure => have := HK1.out; have := HK2.out; omega
        case rel => exact ⟨(x0_2), (wrap64 (x8_1 + 1)), rsd_, H', ⟨by have := HK1.out; have := HK2.out; omega⟩, ⟨ra_ HO_0.out⟩, ⟨by repeat (first | (with_reducible first | exact HK.out | apply Kept.alloc | apply Kept.drewN | apply Kept.drew) | exact HK.out)⟩, ⟨blw_⟩⟩
      ·rw [if_neg c6] at H
       have c6b0 : decide (a1 < x9_2) = false := decide_eq_false c6
       clear c6
       have H' := Aside0.mk H
       clear H
       try go_wp2
       replace HO_0 := Aside0.mk (Kd.R_drew HO_0.out)
       replace HK := Aside0.mk (Kept.drew HK.out)
       replace HB := Aside0.mk (below_drew1 HB.out)
       refine start_ (n := 17) (S := fun w' => True) (ds := []) #[false, false, false, false, false, false, false, false, false, false, false, false, false, false, false, false, false] (by kernel_rfl) rfl rfl trivial (fun hHeld => ?_); refine with_tabW impl_Diagonal_71_s3.tab4 impl_Diagonal_71_s3.bits4 (fun HT_ HW_ => ?_)
       generalize wr.drew = w25 at HO_0 HK HB hHeld ⊢
       refine pux_ 0 18 HT_ ?_
       refine pux_ 1 19 HT_ ?_
       refine pux_ 2 20 HT_ ?_
       refine pux_ 3 21 HT_ ?_
       refine puy_ 4 22 HT_ ?_
       refine puy_ 5 23 HT_ ?_
       refine puy_ 6 24 HT_ ?_
       refine puy_ 7 25 HT_ ?_
       refine puy_ 8 26 HT_ ?_
       refine puy_ 9 27 HT_ ?_
       refine puy_ 10 28 HT_ ?_
       refine puy_ 11 29 HT_ ?_
       refine puy_ 12 30 HT_ ?_
       refine puy_ 13 31 HT_ ?_
       refine puy_ 14 32 HT_ ?_
       refine puy_ 15 33 HT_ ?_
       refine pux_ 16 34 HT_ ?_
       refine done_ (done_of HT_.out (by kernel_rfl)) ?_
       try go_wp2
       go_roundg k2
       case measure => have := HK1.out; have := HK2.out; omega
       case rel => exact ⟨(x0_2), (wrap64 (x8_1 + 1)), rsd_, H', ⟨by have := HK1.out; have := HK2.out; omega⟩, ⟨ra_ HO_0.out⟩, ⟨by repeat (first | (with_reducible first | exact HK.out | apply Kept.alloc | apply Kept.drewN | apply Kept.drew) | exact HK.out)⟩, ⟨blw_⟩⟩
   ·rw [if_neg c5] at H
    have c5b0 : decide (x8_1 < a2) = false := decide_eq_false c5
    clear c5
    obtain rfl := Option.some.inj H
    go_wp2
    first | go_end0 | ((try simp only [Exit.inBlock, Exit.then]); refine bodyPost_ret (results_none rfl _ _ _) rfl ?_)
    exact ⟨by first | rfl | (simp [errW_none, errW_some] <;> rfl) | (simp [*, errW_none, errW_some] <;> rfl), by (with_reducible repeat (first | apply Kd.R_alloc | apply Kd.R_drewN | apply Kd.R_drew)); exact HO_0.out, blw_, by repeat (first | (with_reducible first | exact HK.out | apply Kept.alloc | apply Kept.drewN | apply Kept.drew) | exact HK.out)⟩

end Go.Proofs.YtgblginphicacaaGreatDoor.PFnExactCountByFlips
