-- WRITTEN BY A PROGRAM OF THIS WORK (wip/tools/ppatch.py) for this claim.
import Derived.Test.YtgblginphicacaaGreatDoorPFnExactCountByFlipsx1
import Derived.Test.YtgblginphicacaaGreatDoorPFnExactCountByFlipsx0
import Derived.Test.YtgblginphicacaaGreatDoorPFnExactCountByFlipsx13
import Derived.Test.YtgblginphicacaaGreatDoorPFnExactCountByFlipsx15
import Derived.Test.YtgblginphicacaaGreatDoorPFnExactCountByFlipsx16
import Derived.Test.YtgblginphicacaaGreatDoorPFnExactCountByFlipsx17
namespace Go.Proofs.YtgblginphicacaaGreatDoor.PFnExactCountByFlips
open Go.RowKit Go.Proofs.YtgblginphicacaaGreatDoorW.PrintWords Go.Proofs.YtgblginphicacaaGreatDoorW.PrintLast Go.Proofs.YtgblginphicacaaGreatDoorW.PrintMore
attribute [local go_sem] max2_int min2_int max_two min_two max_three min_three max_four min_four   -- for this text's walks alone
set_option linter.unusedVariables false
set_option linter.unusedSimpArgs false

/-! ### impl_Diagonal_61: function 61 -/
/-- Twelve elements or fewer: an insertion sort. -/
def impl_Diagonal_61.f (k : Nat) (l0 : List S38) (a1 : Int) (a2 : Int) (a3 : Int) : Option (List S38) := if 0 ≤ a1 ∧ a1 ≤ a2 ∧ a2 ≤ 4611686018427387904 ∧ a2 - a1 ≤ 12 then impl_Diagonal_71_s3.f k l0 a1 a2 else none
theorem impl_Diagonal_61.mono : ∀ a0 a1 a2 a3 k, LeO (impl_Diagonal_61.f k a0 a1 a2 a3) (impl_Diagonal_61.f (k + 1) a0 a1 a2 a3) := by
 intro a0 a1 a2 a3 k
 unfold impl_Diagonal_61.f
 exact LeO.ite (impl_Diagonal_71_s3.mono _ _ _ _) (LeO.refl _)
set_option maxHeartbeats 4000000 in
set_option maxRecDepth 100000 in
theorem impl_Diagonal_61.calls (k : Nat) (P0_ : Nat → Prop) (u9000_ : Value) (l0 : List S38) (a1 : Int) (a2 : Int) (a3 : Int) (r : List S38) (w0 w : World) (hB : Below w0.heap.size w0 w) (ho0 : Kd.R k38 38 w w0.heap.size P0_ u9000_ l0) (h : impl_Diagonal_61.f k l0 a1 a2 a3 = some r) :
  Calls Tryz.prog 61 #[u9000_, .int .i64 a1, .int .i64 a2, .int .i64 a3, .func (.func 43) #[] #[]] w fun e w' => e = .returned (.tuple #[]) ∧ Kd.R k38 38 w' w0.heap.size (fun k_ => (P0_ k_ ∨ w.heap.size ≤ k_)) u9000_ r ∧ Below w0.heap.size w0 w' ∧ Kept w w' (fun k_ => P0_ k_) := by
 have H : (if 0 ≤ a1 ∧ a1 ≤ a2 ∧ a2 ≤ 4611686018427387904 ∧ a2 - a1 ≤ 12 then impl_Diagonal_71_s3.f k l0 a1 a2 else none) = some r := h
 clear h
 by_cases c : 0 ≤ a1 ∧ a1 ≤ a2 ∧ a2 ≤ 4611686018427387904 ∧ a2 - a1 ≤ 12
 ·rw [if_pos c] at H
  obtain ⟨c1, c2, c3, c4⟩ := c
  have hi := impl_Diagonal_71_s3.calls k P0_ u9000_ l0 a1 a2 r w0 w hB ho0 H
  have HI := Lib.hid hi
  clear hi H hB ho0
  go_enter Tryz.func61, Tryz.ntmps61
  go_wp2
  refine wp_loop_rounds 1 ?_
  rw [rounds_succ]
  go_wp2_with (go_at_call 71; refine HI.out.mono ?_; rintro e w' ⟨rfl, hr, hb, hk⟩)
  (try simp only [Exit.inBlock, Exit.then])
  refine bodyPost_ret (results_none rfl _ _ _) rfl ?_
  exact ⟨rfl, hr, hb, hk⟩
 ·rw [if_neg c] at H
  cases H

/-! ### impl_Diagonal_47_s4: function 100004 -/
def impl_Diagonal_47_s4.f (k : Nat) (l0 : List (S38))  : Option ((List (S38))) := (bits_Len.f k (IntKind.u64.wrap ((l0.length : Int)))).bind fun t346 => ((impl_Diagonal_61.f k l0 0 (l0.length : Int) t346).bind fun t347 => (some t347))
theorem impl_Diagonal_47_s4.mono : ∀ a0 k, LeO (impl_Diagonal_47_s4.f k a0) (impl_Diagonal_47_s4.f (k + 1) a0) := by
 intro a0 k
 unfold impl_Diagonal_47_s4.f
 repeat' first
   | (with_reducible exact bits_Len.mono _ _)
   | (with_reducible exact impl_Diagonal_61.mono _ _ _ _ _)
   | (with_reducible exact LeO.refl _)
   | (with_reducible exact LeO.none _)
   | (with_reducible refine LeO.ite ?_ ?_)
   | (with_reducible refine LeO.bind ?_ (fun _ => ?_))
   | exact bits_Len.mono _ _
   | exact impl_Diagonal_61.mono _ _ _ _ _
   | exact LeO.none _
   | refine LeO.ite ?_ ?_
   | refine LeO.bind ?_ (fun _ => ?_)
set_option maxHeartbeats 8000000 in
set_option maxRecDepth 100000 in
theorem impl_Diagonal_47_s4.calls (k : Nat) (P0_ : Nat → Prop) (u9000_ : Value) (l0 : List (S38))  (r : List (S38)) (w0 w : World) (hB : Below w0.heap.size w0 w) (ho0 : Kd.R k38 38 w w0.heap.size P0_ u9000_ l0) (h : impl_Diagonal_47_s4.f k l0 = some r) :
  Calls Tryz.prog 47 #[u9000_, .func (.func 43) #[] #[]] w fun e w' => e = .returned (.tuple #[]) ∧ Kd.R k38 38 w' w0.heap.size (fun k_ => (P0_ k_ ∨ w.heap.size ≤ k_)) u9000_ r ∧ Below w0.heap.size w0 w' ∧ Kept w w' (fun k_ => P0_ k_) := by
 have HO0 := Aside0.mk (show Kd.R k38 38 w w0.heap.size (fun k_ => (P0_ k_ ∨ w.heap.size ≤ k_)) u9000_ l0 from Kd.R_mono ho0 (fun k_ hk => (.inl hk)))
 have HK := Aside0.mk (Kept.refl w (fun k_ => P0_ k_))
 have HW0 := Aside0.mk hB.size
 have HB := Aside0.mk hB
 clear hB
 have H : ((bits_Len.f k (IntKind.u64.wrap ((l0.length : Int)))).bind fun t346 => ((impl_Diagonal_61.f k l0 0 (l0.length : Int) t346).bind fun t347 => (some t347))) = some r := h
 clear h
 replace H := Option.bind_eq_some_iff.mp H
 obtain ⟨t346, A30, H⟩ := H
 replace H : ((impl_Diagonal_61.f k l0 0 (l0.length : Int) t346).bind fun t347 => (some t347)) = some r := H
 have A3 := Aside0.mk A30
 clear A30
 replace H := Option.bind_eq_some_iff.mp H
 obtain ⟨t347, A40, H⟩ := H
 replace H : (some t347) = some r := H
 have A4 := Aside0.mk A40
 clear A40
 obtain rfl := Option.some.inj H
 obtain ⟨Ao5, co5, eo5⟩ := Kd.R_slice HO0.out
 subst eo5
 go_enter Tryz.func47, Tryz.ntmps47
 go_wp2_with (first | ((with_reducible refine gate_callee (f := 62) rfl ?_); refine goesL_ (some 11) rfl rfl Tryz.func62 (by kernel_rfl) rfl #[.int .u64 (IntKind.u64.wrap ((l0.length : Int)))] rfl amp_ ?_; (with_reducible refine (bits_Len.calls k (IntKind.u64.wrap ((l0.length : Int))) t346 _ A3.out).mono ?_); rintro e w' ⟨rfl, ⟨nd, rfl⟩⟩; refine ⟨_, rfl, ?_⟩) | ((with_reducible refine gate_callee (f := 61) rfl ?_); refine goesL_ (some 13) rfl rfl Tryz.func61 (by kernel_rfl) rfl #[.slice Ao5 l0.length co5, .int .i64 0, .int .i64 (l0.length : Int), .int .i64 t346, .func (.func 43) #[] #[]] rfl amp_ ?_; (with_reducible refine (impl_Diagonal_61.calls k (fun k_ => some k_ = (.slice Ao5 l0.length co5 : Value).ownBlock) (.slice Ao5 l0.length co5) l0 0 (l0.length : Int) t346  t347 w0 _ ?side1 ?side2 A4.out).mono ?_); (case side1 => repeat (first | (with_reducible first | exact HB.out | apply below_alloc | apply pw_below_drewN | apply below_drew1) | exact HB.out)); (case side2 => exact Kd.R_tight rfl HO0.out); rintro e w6 ⟨rfl, hy0, hb, hkp⟩; refine ⟨_, rfl, ?_⟩; replace HK := Aside0.mk (Kept.then_ (S := (fun k_ => P0_ k_)) (by repeat (first | (with_reducible first | exact HK.out | apply Kept.alloc | apply Kept.drewN | apply Kept.drew) | exact HK.out)) hkp (fun k_ hs_ => (fun e_ => (HO0.out.1 k_ e_.symm)) hs_)); replace HO0 := Aside0.mk (Kd.R_reok rfl hy0 (fun k_ e_ => HO0.out.1 k_ e_)); replace HB := Aside0.mk (hb); (try clear hb); (try clear hkp); (try clear hy0)))
 first | go_end0 | ((try simp only [Exit.inBlock, Exit.then]); refine bodyPost_ret (results_none rfl _ _ _) rfl ?_)
 exact ⟨by first | rfl | (simp [errW_none, errW_some] <;> rfl) | (simp [*, errW_none, errW_some] <;> rfl), by (with_reducible repeat (first | apply Kd.R_alloc | apply Kd.R_drewN | apply Kd.R_drew)); exact HO0.out, blw_, by repeat (first | (with_reducible first | exact HK.out | apply Kept.alloc | apply Kept.drewN | apply Kept.drew) | exact HK.out)⟩

/-! ### impl_flipped: function 25 -/
def impl_flipped.f (k : Nat) (a0 : Int) (l1 : List (S38)) (a2_0 : Int) (a2_1 : Int) : Option ((List (S38))) := (impl_Diagonal_28.f l1).bind fun t349 => ((impl_Diagonal_46.f k t349 a2_0 a2_1).bind fun t352 => ((impl_otherOf.f k a0 l1 a2_0 a2_1).bind fun bt353 => (if 0 ≤ t352 then (if t352 < (t349.length : Int) then ((impl_Diagonal_47_s4.f k (t349.set (t352 : Int).toNat (⟨bt353.1, bt353.2⟩ : S38))).bind fun t356 => (some t356)) else (none)) else (none))))
theorem impl_flipped.mono : ∀ a0 a1 a2 a3 k, LeO (impl_flipped.f k a0 a1 a2 a3) (impl_flipped.f (k + 1) a0 a1 a2 a3) := by
 intro a0 a1 a2 a3 k
 unfold impl_flipped.f
 repeat' first
   | (with_reducible exact impl_Diagonal_46.mono _ _ _ _)
   | (with_reducible exact impl_Diagonal_47_s4.mono _ _)
   | (with_reducible exact impl_otherOf.mono _ _ _ _ _)
   | (with_reducible exact LeO.refl _)
   | (with_reducible exact LeO.none _)
   | (with_reducible refine LeO.ite ?_ ?_)
   | (with_reducible refine LeO.bind ?_ (fun _ => ?_))
   | exact impl_Diagonal_46.mono _ _ _ _
   | exact impl_Diagonal_47_s4.mono _ _
   | exact impl_otherOf.mono _ _ _ _ _
   | exact LeO.none _
   | refine LeO.ite ?_ ?_
   | refine LeO.bind ?_ (fun _ => ?_)
def impl_flipped.T2 : Bool × List (List Nat × List Nat) := (true, [([], []), ([], []), ([], []), ([1, 2], [1, 2]), ([], []), ([], []), ([], []), ([4, 5, 6, 3], [4, 5, 6]), ([0, 3, 0, 1, 2, 3, 4, 5, 6, 7], [0, 3]), ([8, 7, 7, 0, 1, 2, 3, 4, 5, 6, 7], [7, 8])])
def impl_flipped.B2 : List Nat := [0, 0, 0, 6, 0, 0, 0, 126, 255, 511]
theorem impl_flipped.tab2 : rtab .any (opsOf Tryz.f25 2) = impl_flipped.T2 := by kernel_rfl
theorem impl_flipped.bits2 : waitsOk impl_flipped.T2.2 impl_flipped.B2 = true := by kernel_rfl
set_option maxHeartbeats 8000000 in
set_option maxRecDepth 100000 in
theorem impl_flipped.calls (k : Nat) (a0 : Int) (A1 : Option Addr) (c1 : Nat) (l1 : List (S38)) (a2_0 : Int) (a2_1 : Int) (r : List (S38)) (w : World) (hr1 : Kd.C k38 w A1 l1.length l1) (hc1 : l1.length ≤ c1) (h : impl_flipped.f k a0 l1 a2_0 a2_1 = some r) :
  Calls Tryz.prog 25 #[.int .i64 a0, .slice A1 l1.length c1, .agg #[.int .i64 a2_0, .int .i64 a2_1]] w fun e w' => ∃ v0_ : Value, e = .returned (v0_) ∧ Kd.R k38 38 w' w.heap.size (fun _ => True) v0_ r ∧ Below w.heap.size w w' := by
 have hu38 := Tryz.underlying38
 have HR1 := Aside0.mk hr1
 have HC1 := Aside0.mk hc1
 clear hr1 hc1
 have HB := Aside0.mk (Below.refl w.heap.size w)
 have H : ((impl_Diagonal_28.f l1).bind fun t349 => ((impl_Diagonal_46.f k t349 a2_0 a2_1).bind fun t352 => ((impl_otherOf.f k a0 l1 a2_0 a2_1).bind fun bt353 => (if 0 ≤ t352 then (if t352 < (t349.length : Int) then ((impl_Diagonal_47_s4.f k (t349.set (t352 : Int).toNat (⟨bt353.1, bt353.2⟩ : S38))).bind fun t356 => (some t356)) else (none)) else (none))))) = some r := h
 clear h
 replace H := Option.bind_eq_some_iff.mp H
 obtain ⟨t349, A40, H⟩ := H
 replace H : ((impl_Diagonal_46.f k t349 a2_0 a2_1).bind fun t352 => ((impl_otherOf.f k a0 l1 a2_0 a2_1).bind fun bt353 => (if 0 ≤ t352 then (if t352 < (t349.length : Int) then ((impl_Diagonal_47_s4.f k (t349.set (t352 : Int).toNat (⟨bt353.1, bt353.2⟩ : S38))).bind fun t356 => (some t356)) else (none)) else (none)))) = some r := H
 have A4 := Aside0.mk A40
 clear A40
 replace H := Option.bind_eq_some_iff.mp H
 obtain ⟨t352, A50, H⟩ := H
 replace H : ((impl_otherOf.f k a0 l1 a2_0 a2_1).bind fun bt353 => (if 0 ≤ t352 then (if t352 < (t349.length : Int) then ((impl_Diagonal_47_s4.f k (t349.set (t352 : Int).toNat (⟨bt353.1, bt353.2⟩ : S38))).bind fun t356 => (some t356)) else (none)) else (none))) = some r := H
 have A5 := Aside0.mk A50
 clear A50
 replace H := Option.bind_eq_some_iff.mp H
 obtain ⟨⟨t353, t354⟩, A60, H⟩ := H
 replace H : (if 0 ≤ t352 then (if t352 < (t349.length : Int) then ((impl_Diagonal_47_s4.f k (t349.set (t352 : Int).toNat (⟨t353, t354⟩ : S38))).bind fun t356 => (some t356)) else (none)) else (none)) = some r := H
 have A6 := Aside0.mk A60
 clear A60
 by_cases c7 : 0 ≤ t352
 case neg=>rw [if_neg c7] at H;exact absurd H (by simp)
 rw [if_pos c7] at H
 have c7b0 : decide (0 ≤ t352) = true := decide_eq_true c7
 clear c7
 by_cases c8 : t352 < (t349.length : Int)
 case neg=>rw [if_neg c8] at H;exact absurd H (by simp)
 rw [if_pos c8] at H
 have c8b0 : decide (t352 < (t349.length : Int)) = true := decide_eq_true c8
 clear c8
 obtain ⟨y355, hy355⟩ : ∃ y_ : List (S38), y_ = (t349.set (t352 : Int).toNat (⟨t353, t354⟩ : S38)) := ⟨_, rfl⟩
 replace H : ((impl_Diagonal_47_s4.f k y355).bind fun t356 => (some t356)) = some r := hyy_ hy355 H
 have Ny355 := Aside0.mk hy355
 clear hy355
 replace H := Option.bind_eq_some_iff.mp H
 obtain ⟨t356, A100, H⟩ := H
 replace H : (some t356) = some r := H
 have A10 := Aside0.mk A100
 clear A100
 obtain rfl := Option.some.inj H
 go_enter Tryz.func25, Tryz.ntmps25
 try go_wp2_with (first | ((with_reducible refine gate_dst (N := 5) rfl ?_); refine bxe_ 5 #[.int .i64 a2_0, .int .i64 a2_1] 38 ?_; intro gb348 hg w11 hbox hb; have BK348 := Aside0.mk (hbox); have GW348 := gz_ w hg; have GE348 := gz_ w hg; replace HB := Aside0.mk (below_step blw_ hb); clear hb hbox hg) | ((with_reducible refine gate_callee (f := 28) rfl ?_); refine goesL_ (some 9) rfl rfl Tryz.func28 (by kernel_rfl) rfl #[.slice A1 l1.length c1] rfl amp_ ?_; (with_reducible refine (impl_Diagonal_28.calls _ _ l1 t349 _ ?side1 ?side2 A4.out).mono ?_); (case side1 => exact cd_ (Kd.C_below HR1.out HB.out)); (case side2 => exact HC1.out); rintro e w12 ⟨v350, rfl, ho0, hb⟩; refine ⟨_, rfl, ?_⟩; have HO351 := Aside0.mk (Kd.R_lower (Kd.R_newB ho0 (g := gb348) (o := .cells #[.int .i64 a2_0, .int .i64 a2_1] 38 (0, 0)) (bk_ BK348.out)) (below_size bls_)); replace BK348 := bb_ BK348 hb; replace HB := Aside0.mk (below_step bls_ hb); (try clear hb); (try clear hb2); (try clear hk); (try clear hi); (try clear ho0)))
 replace HO351 := Aside0.mk (Kd.R_drew HO351.out)
 replace BK348 := Aside0.mk (blk_drew BK348.out)
 replace HB := Aside0.mk (below_drew1 HB.out)
 obtain ⟨Ao14, co14, eo14⟩ := Kd.R_slice HO351.out
 (first | subst eo14 | (injection eo14 with f1_ f2_ f3_; have f4_ := f1_.symm; have f5_ := f3_.symm; clear f1_ f2_ f3_; subst f4_; subst f5_))
 refine start_ (n := 10) (S := fun w' => w'.cell? ⟨gb348, 0, none⟩ = some (.int .i64 a2_0) ∧ w'.cell? ⟨gb348, 1, none⟩ = some (.int .i64 a2_1)) (ds := [9]) #[false, false, false, false, false, false, false, false, false, false] (by kernel_rfl) rfl rfl ⟨(blk_cell BK348.out 0).trans rfl, (blk_cell BK348.out 1).trans rfl⟩ (fun hHeld => ?_); refine with_tabW impl_flipped.tab2 impl_flipped.bits2 (fun HT_ HW_ => ?_)
 generalize w12.drew = w13 at HO351 BK348 HB hHeld ⊢
 refine pux_ 0 10 HT_ ?_
 refine pux_ 1 11 HT_ ?_
 refine pux_ 4 14 HT_ ?_
 refine pux_ 5 15 HT_ ?_
 refine tak_ 2 12 HT_ HW_ hHeld ?_
 refine tak_ 6 16 HT_ HW_ hHeld ?_
 refine oner_ 3 13 HT_ (fun K hK => ?_)
 refine goes_ Tryz.func46 (by kernel_rfl) rfl #[.slice Ao14 t349.length co14, .agg #[.int .i64 a2_0, .int .i64 a2_1]] (by rfl) rfl rfl amp_ ?_
 with_reducible refine (impl_Diagonal_46.calls k _ _ t349 a2_0 a2_1 t352 _ ?side1 ?side2 A5.out).mono ?_
 (case side1 => exact cd_ (Kd.R_reads' HO351.out).2.2)
 (case side2 => exact (Kd.R_reads' HO351.out).2.1)
 rintro e w15 ⟨rfl, hb⟩
 refine ⟨_, rfl, ?_⟩
 replace HO351 := Aside0.mk (Kd.R_below (ra_ HO351.out) hb)
 replace BK348 := bb_ BK348 hb
 replace HB := Aside0.mk (below_step bls_ hb)
 (try clear hb)
 (try clear hb2)
 (try clear hk)
 (try clear hi)
 refine hK.out _ _ ⟨(blk_cell BK348.out 0).trans rfl, (blk_cell BK348.out 1).trans rfl⟩ (fun hHeld => ?_)
 clear hK K
 refine nor_ 13 ?_
 refine oner_ 7 17 HT_ (fun K hK => ?_)
 refine goes_ Tryz.func45 (by kernel_rfl) rfl #[.int .i64 a0, .slice A1 l1.length c1, .agg #[.int .i64 a2_0, .int .i64 a2_1]] (by rfl) rfl rfl amp_ ?_
 with_reducible refine (impl_otherOf.calls k a0 _ _ l1 a2_0 a2_1 t353 t354 _ ?side1 ?side2 A6.out).mono ?_
 (case side1 => exact cd_ (Kd.C_below HR1.out HB.out))
 (case side2 => exact HC1.out)
 rintro e w16 ⟨rfl, hb⟩
 refine ⟨_, rfl, ?_⟩
 replace HO351 := Aside0.mk (Kd.R_below (ra_ HO351.out) hb)
 replace BK348 := bb_ BK348 hb
 replace HB := Aside0.mk (below_step bls_ hb)
 (try clear hb)
 (try clear hb2)
 (try clear hk)
 (try clear hi)
 have p9 : 0 ≤ (t352 : Int) := odt_
 have q9 : (t352 : Int) < ((t349.length : Int) : Int) := odt_
 obtain ⟨go9, co9, eo9, gb9, gl9, cl9, HG9⟩ := Kd.R_form HO351.out (by omega)
 (first | cases eo9 | (injection eo9 with ea_ en_ ec_; (first | subst ea_ | (injection ea_ with ea_; subst ea_)); subst ec_; clear en_))
 have GB9 := Aside0.mk gb9
 have GG9 := Aside0.mk HG9
 clear gb9 gl9 HG9
 obtain ⟨ce9, hcl9, hM9, hcc9, hfr9⟩ := Kd.R_elem HO351.out z38 (t352 : Int) p9 q9
 obtain rfl := k38_openM hM9
 have hx9_0 : World.cell? _ ⟨go9, (t352 : Int).toNat * 2, none⟩ = some (.int .i64 ((rd_T38 t349 t352).f0)) := hcc9 0 _ rfl
 have hx9_1 : World.cell? _ ⟨go9, (t352 : Int).toNat * 2 + 1, none⟩ = some (.int .i64 ((rd_T38 t349 t352).f1)) := hcc9 1 _ rfl
 have hf9_0 : World.frozen? _ ⟨go9, (t352 : Int).toNat * 2, none⟩ = false := hfr9 0
 have hf9_1 : World.frozen? _ ⟨go9, (t352 : Int).toNat * 2 + 1, none⟩ = false := hfr9 1
 clear hcl9 hcc9 hfr9 hM9
 replace p9 := eq_true p9
 replace q9 := eq_true q9
 obtain ⟨ce17, hcl17, hM17, hcc17, hfr17⟩ := Kd.R_elem HO351.out z38 (t352 : Int) (odt_) (by have h_ : (t352 : Int) < ((t349.length : Int) : Int) := odt_; first | exact h_ | (have e_ := (Kd.R_reads' HO351.out).1; omega) | simpa using h_)
 obtain rfl := k38_openM hM17
 have HP17 := (Kd.R_seg HO351.out (t352 : Int) (odt_) (by have h_ : (t352 : Int) < ((t349.length : Int) : Int) := odt_; first | exact h_ | (have e_ := (Kd.R_reads' HO351.out).1; omega) | simpa using h_) (seg := [.int .i64 t353, .int .i64 t354]) (j := 0) hcl17 hcc17 (show 2 ≤ 2 from by decide) (x' := (⟨t353, t354⟩ : S38)) (k38_mkM _ _ _ (⟨t353, t354⟩ : S38) ) (fun _ hk => hk)).1
 rw [← Ny355.out] at HP17
 have HQ17 := Aside0.mk HP17
 clear hcl17 hcc17 hfr17 hM17 HP17
 refine hK.out _ _ ⟨(blk_cell BK348.out 0).trans rfl, (blk_cell BK348.out 1).trans rfl⟩ (fun hHeld => ?_)
 clear hK K
 refine nor_ 17 ?_
 refine pux_ 8 18 HT_ ?_
 refine last_ (i := 9) (N := none) #[true, true, true, true, true, true, true, true, true, true] rfl rfl (one_of HT_.out (by kernel_rfl)) (by decide) (fun K hK => ?_)
 refine skip_ (w1 := ?_) (by rfl) rfl ?_ ?_
 rotate_left
 ·go_simp
  rfl
 refine hK.out _ _ ?_
 clear hK K
 refine done_ (done_of HT_.out (by kernel_rfl)) ?_
 have n0_ : Aside0 (Kd.R k38 38 ((w16.setCell ⟨go9, (t352 : Int).toNat * 2, none⟩ (.int .i64 t353)).setCell ⟨go9, (t352 : Int).toNat * 2 + 1, none⟩ (.int .i64 t354)) w.heap.size (fun k_ => k_ ≠ gb348) (.slice (some ⟨go9, 0, none⟩) t349.length co14) y355) := ⟨by (with_reducible repeat (first | apply Kd.R_alloc | apply Kd.R_drewN | apply Kd.R_drew)); exact Kd.R_mono HQ17.out (fun _ hk => hk.2)⟩
 have n1_ : Aside0 (((w16.setCell ⟨go9, (t352 : Int).toNat * 2, none⟩ (.int .i64 t353)).setCell ⟨go9, (t352 : Int).toNat * 2 + 1, none⟩ (.int .i64 t354)).heap[gb348]? = some (.cells #[.int .i64 a2_0, .int .i64 a2_1] 38 (0, 0))) := ⟨by (with_reducible repeat (first | refine blk_drewN ?_ _ | refine blk_drew ?_ | refine blk_alloc ?_ _)); refine blk_far ?_ (by have h_ := Kd.R_away HO351.out (fun _ hk => hk.2); intro e_; exact h_ (by rw [e_]; rfl)) _; (with_reducible repeat (first | refine blk_drewN ?_ _ | refine blk_drew ?_ | refine blk_alloc ?_ _)); refine blk_far ?_ (by have h_ := Kd.R_away HO351.out (fun _ hk => hk.2); intro e_; exact h_ (by rw [e_]; rfl)) _; (with_reducible repeat (first | refine blk_drewN ?_ _ | refine blk_drew ?_ | refine blk_alloc ?_ _)); exact BK348.out⟩
 have n2_ : Aside0 (Below w.heap.size w ((w16.setCell ⟨go9, (t352 : Int).toNat * 2, none⟩ (.int .i64 t353)).setCell ⟨go9, (t352 : Int).toNat * 2 + 1, none⟩ (.int .i64 t354))) := ⟨by repeat (first | (with_reducible first | exact HB.out | apply below_alloc | apply pw_below_drewN | apply below_drew1 | refine below_set ?_ GB9.out | refine below_set ?_ GB9.out | refine below_set ?_ GE348.out) | exact HB.out)⟩
 (try clear HO351)
 (try clear BK348)
 (try clear HB)
 generalize ((w16.setCell ⟨go9, (t352 : Int).toNat * 2, none⟩ (.int .i64 t353)).setCell ⟨go9, (t352 : Int).toNat * 2 + 1, none⟩ (.int .i64 t354)) = w18 at n0_ n1_ n2_ ⊢
 have HO351 := n0_
 have BK348 := n1_
 have HB := n2_
 clear n0_ n1_ n2_
 try go_wp2_with (first | ((with_reducible refine gate_callee (f := 47) rfl ?_); refine goesL_ (some 20) rfl rfl Tryz.func47 (by kernel_rfl) rfl #[.slice (some ⟨go9, 0, none⟩) t349.length co14, .func (.func 43) #[] #[]] rfl amp_ ?_; (with_reducible refine (impl_Diagonal_47_s4.calls k (fun k_ => some k_ = (.slice (some ⟨go9, 0, none⟩) t349.length co14 : Value).ownBlock) (.slice (some ⟨go9, 0, none⟩) t349.length co14) y355  t356 w _ ?side1 ?side2 A10.out).mono ?_); (case side1 => repeat (first | (with_reducible first | exact HB.out | apply below_alloc | apply pw_below_drewN | apply below_drew1 | refine below_set ?_ GE348.out) | exact HB.out)); (case side2 => exact Kd.R_tight rfl HO351.out); rintro e w19 ⟨rfl, hy0, hb, hkp⟩; refine ⟨_, rfl, ?_⟩; replace BK348 := Aside0.mk (blk_kept (bk_ BK348.out) hkp (fun hs_ => (fun e_ => (Kd.R_away HO351.out (fun _ hk => hk)) e_) hs_)); replace HO351 := Aside0.mk (Kd.R_reok rfl hy0 (fun k_ e_ => HO351.out.1 k_ e_)); replace HB := Aside0.mk (hb); (try clear hb); (try clear hkp); (try clear hy0)))
 go_ret
 exact ⟨_, by first | rfl | (simp [errW_none, errW_some] <;> rfl) | (simp [*, errW_none, errW_some] <;> rfl), by (with_reducible repeat (first | apply Kd.R_alloc | apply Kd.R_drewN | apply Kd.R_drew)); exact Kd.R_mono HO351.out (fun _ hk => trivial), bls_⟩

end Go.Proofs.YtgblginphicacaaGreatDoor.PFnExactCountByFlips
