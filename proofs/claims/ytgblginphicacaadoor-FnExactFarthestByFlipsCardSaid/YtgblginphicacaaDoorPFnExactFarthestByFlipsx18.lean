-- WRITTEN BY A PROGRAM OF THIS WORK (wip/tools/ppatch.py) for this claim.
import Derived.Test.YtgblginphicacaaDoorPFnExactFarthestByFlipsx1
import Derived.Test.YtgblginphicacaaDoorPFnExactFarthestByFlipsx0
import Derived.Test.YtgblginphicacaaDoorPFnExactFarthestByFlipsx12
import Derived.Test.YtgblginphicacaaDoorPFnExactFarthestByFlipsx14
import Derived.Test.YtgblginphicacaaDoorPFnExactFarthestByFlipsx15
import Derived.Test.YtgblginphicacaaDoorPFnExactFarthestByFlipsx17
namespace Go.Proofs.YtgblginphicacaaDoor.PFnExactFarthestByFlips
open Go.RowKit Go.Proofs.YtgblginphicacaaDoorW.PrintWords Go.Proofs.YtgblginphicacaaDoorW.PrintLast Go.Proofs.YtgblginphicacaaDoorW.PrintMore
attribute [local go_sem] max2_int min2_int max_two min_two max_three min_three max_four min_four   -- for this text's walks alone
set_option linter.unusedVariables false
set_option linter.unusedSimpArgs false

/-! ### impl_Diagonal_73: function 73 -/
/-- Twelve elements or fewer: an insertion sort. -/
def impl_Diagonal_73.f (k : Nat) (l0 : List S49) (a1 : Int) (a2 : Int) (a3 : Int) : Option (List S49) := if 0 ≤ a1 ∧ a1 ≤ a2 ∧ a2 ≤ 4611686018427387904 ∧ a2 - a1 ≤ 12 then impl_Diagonal_82_s0.f k l0 a1 a2 else none
theorem impl_Diagonal_73.mono : ∀ a0 a1 a2 a3 k, LeO (impl_Diagonal_73.f k a0 a1 a2 a3) (impl_Diagonal_73.f (k + 1) a0 a1 a2 a3) := by
 intro a0 a1 a2 a3 k
 unfold impl_Diagonal_73.f
 exact LeO.ite (impl_Diagonal_82_s0.mono _ _ _ _) (LeO.refl _)
set_option maxHeartbeats 4000000 in
set_option maxRecDepth 100000 in
theorem impl_Diagonal_73.calls (k : Nat) (P0_ : Nat → Prop) (u9000_ : Value) (l0 : List S49) (a1 : Int) (a2 : Int) (a3 : Int) (r : List S49) (w0 w : World) (hB : Below w0.heap.size w0 w) (ho0 : Kd.R k49 49 w w0.heap.size P0_ u9000_ l0) (h : impl_Diagonal_73.f k l0 a1 a2 a3 = some r) :
  Calls Tryd.prog 73 #[u9000_, .int .i64 a1, .int .i64 a2, .int .i64 a3, .func (.func 57) #[] #[]] w fun e w' => e = .returned (.tuple #[]) ∧ Kd.R k49 49 w' w0.heap.size (fun k_ => (P0_ k_ ∨ w.heap.size ≤ k_)) u9000_ r ∧ Below w0.heap.size w0 w' ∧ Kept w w' (fun k_ => P0_ k_) := by
 have H : (if 0 ≤ a1 ∧ a1 ≤ a2 ∧ a2 ≤ 4611686018427387904 ∧ a2 - a1 ≤ 12 then impl_Diagonal_82_s0.f k l0 a1 a2 else none) = some r := h
 clear h
 by_cases c : 0 ≤ a1 ∧ a1 ≤ a2 ∧ a2 ≤ 4611686018427387904 ∧ a2 - a1 ≤ 12
 ·rw [if_pos c] at H
  obtain ⟨c1, c2, c3, c4⟩ := c
  have hi := impl_Diagonal_82_s0.calls k P0_ u9000_ l0 a1 a2 r w0 w hB ho0 H
  have HI := Lib.hid hi
  clear hi H hB ho0
  go_enter Tryd.func73, Tryd.ntmps73
  go_wp2
  refine wp_loop_rounds 1 ?_
  rw [rounds_succ]
  go_wp2_with (go_at_call 82; refine HI.out.mono ?_; rintro e w' ⟨rfl, hr, hb, hk⟩)
  (try simp only [Exit.inBlock, Exit.then])
  refine bodyPost_ret (results_none rfl _ _ _) rfl ?_
  exact ⟨rfl, hr, hb, hk⟩
 ·rw [if_neg c] at H
  cases H

/-! ### impl_Diagonal_56_s1: function 100001 -/
def impl_Diagonal_56_s1.f (k : Nat) (l0 : List (S49))  : Option ((List (S49))) := (bits_Len.f k (IntKind.u64.wrap ((l0.length : Int)))).bind fun t336 => ((impl_Diagonal_73.f k l0 0 (l0.length : Int) t336).bind fun t337 => (some t337))
theorem impl_Diagonal_56_s1.mono : ∀ a0 k, LeO (impl_Diagonal_56_s1.f k a0) (impl_Diagonal_56_s1.f (k + 1) a0) := by
 intro a0 k
 unfold impl_Diagonal_56_s1.f
 repeat' first
   | (with_reducible exact bits_Len.mono _ _)
   | (with_reducible exact impl_Diagonal_73.mono _ _ _ _ _)
   | (with_reducible exact LeO.refl _)
   | (with_reducible exact LeO.none _)
   | (with_reducible refine LeO.ite ?_ ?_)
   | (with_reducible refine LeO.bind ?_ (fun _ => ?_))
   | exact bits_Len.mono _ _
   | exact impl_Diagonal_73.mono _ _ _ _ _
   | exact LeO.none _
   | refine LeO.ite ?_ ?_
   | refine LeO.bind ?_ (fun _ => ?_)
set_option maxHeartbeats 8000000 in
set_option maxRecDepth 100000 in
theorem impl_Diagonal_56_s1.calls (k : Nat) (P0_ : Nat → Prop) (u9000_ : Value) (l0 : List (S49))  (r : List (S49)) (w0 w : World) (hB : Below w0.heap.size w0 w) (ho0 : Kd.R k49 49 w w0.heap.size P0_ u9000_ l0) (h : impl_Diagonal_56_s1.f k l0 = some r) :
  Calls Tryd.prog 56 #[u9000_, .func (.func 57) #[] #[]] w fun e w' => e = .returned (.tuple #[]) ∧ Kd.R k49 49 w' w0.heap.size (fun k_ => (P0_ k_ ∨ w.heap.size ≤ k_)) u9000_ r ∧ Below w0.heap.size w0 w' ∧ Kept w w' (fun k_ => P0_ k_) := by
 have HO0 := Aside0.mk (show Kd.R k49 49 w w0.heap.size (fun k_ => (P0_ k_ ∨ w.heap.size ≤ k_)) u9000_ l0 from Kd.R_mono ho0 (fun k_ hk => (.inl hk)))
 have HK := Aside0.mk (Kept.refl w (fun k_ => P0_ k_))
 have HW0 := Aside0.mk hB.size
 have HB := Aside0.mk hB
 clear hB
 have H : ((bits_Len.f k (IntKind.u64.wrap ((l0.length : Int)))).bind fun t336 => ((impl_Diagonal_73.f k l0 0 (l0.length : Int) t336).bind fun t337 => (some t337))) = some r := h
 clear h
 replace H := Option.bind_eq_some_iff.mp H
 obtain ⟨t336, A30, H⟩ := H
 replace H : ((impl_Diagonal_73.f k l0 0 (l0.length : Int) t336).bind fun t337 => (some t337)) = some r := H
 have A3 := Aside0.mk A30
 clear A30
 replace H := Option.bind_eq_some_iff.mp H
 obtain ⟨t337, A40, H⟩ := H
 replace H : (some t337) = some r := H
 have A4 := Aside0.mk A40
 clear A40
 obtain rfl := Option.some.inj H
 obtain ⟨Ao5, co5, eo5⟩ := Kd.R_slice HO0.out
 subst eo5
 go_enter Tryd.func56, Tryd.ntmps56
 go_wp2_with (first | ((with_reducible refine gate_callee (f := 74) rfl ?_); refine goesL_ (some 11) rfl rfl Tryd.func74 (by kernel_rfl) rfl #[.int .u64 (IntKind.u64.wrap ((l0.length : Int)))] rfl amp_ ?_; (with_reducible refine (bits_Len.calls k (IntKind.u64.wrap ((l0.length : Int))) t336 _ A3.out).mono ?_); rintro e w' ⟨rfl, ⟨nd, rfl⟩⟩; refine ⟨_, rfl, ?_⟩) | ((with_reducible refine gate_callee (f := 73) rfl ?_); refine goesL_ (some 13) rfl rfl Tryd.func73 (by kernel_rfl) rfl #[.slice Ao5 l0.length co5, .int .i64 0, .int .i64 (l0.length : Int), .int .i64 t336, .func (.func 57) #[] #[]] rfl amp_ ?_; (with_reducible refine (impl_Diagonal_73.calls k (fun k_ => some k_ = (.slice Ao5 l0.length co5 : Value).ownBlock) (.slice Ao5 l0.length co5) l0 0 (l0.length : Int) t336  t337 w0 _ ?side1 ?side2 A4.out).mono ?_); (case side1 => repeat (first | (with_reducible first | exact HB.out | apply below_alloc | apply pw_below_drewN | apply below_drew1) | exact HB.out)); (case side2 => exact Kd.R_tight rfl HO0.out); rintro e w6 ⟨rfl, hy0, hb, hkp⟩; refine ⟨_, rfl, ?_⟩; replace HK := Aside0.mk (Kept.then_ (S := (fun k_ => P0_ k_)) (by repeat (first | (with_reducible first | exact HK.out | apply Kept.alloc | apply Kept.drewN | apply Kept.drew) | exact HK.out)) hkp (fun k_ hs_ => (fun e_ => (HO0.out.1 k_ e_.symm)) hs_)); replace HO0 := Aside0.mk (Kd.R_reok rfl hy0 (fun k_ e_ => HO0.out.1 k_ e_)); replace HB := Aside0.mk (hb); (try clear hb); (try clear hkp); (try clear hy0)))
 first | go_end0 | ((try simp only [Exit.inBlock, Exit.then]); refine bodyPost_ret (results_none rfl _ _ _) rfl ?_)
 exact ⟨by first | rfl | (simp [errW_none, errW_some] <;> rfl) | (simp [*, errW_none, errW_some] <;> rfl), by (with_reducible repeat (first | apply Kd.R_alloc | apply Kd.R_drewN | apply Kd.R_drew)); exact HO0.out, blw_, by repeat (first | (with_reducible first | exact HK.out | apply Kept.alloc | apply Kept.drewN | apply Kept.drew) | exact HK.out)⟩

/-! ### impl_flipped: function 35 -/
def impl_flipped.f (k : Nat) (a0 : Int) (l1 : List (S49)) (a2_0 : Int) (a2_1 : Int) : Option ((List (S49))) := (impl_Diagonal_43.f l1).bind fun t339 => ((impl_Diagonal_55.f k t339 a2_0 a2_1).bind fun t342 => ((impl_otherOf.f k a0 l1 a2_0 a2_1).bind fun bt343 => (if 0 ≤ t342 then (if t342 < (t339.length : Int) then ((impl_Diagonal_56_s1.f k (t339.set (t342 : Int).toNat (⟨bt343.1, bt343.2⟩ : S49))).bind fun t346 => (some t346)) else (none)) else (none))))
theorem impl_flipped.mono : ∀ a0 a1 a2 a3 k, LeO (impl_flipped.f k a0 a1 a2 a3) (impl_flipped.f (k + 1) a0 a1 a2 a3) := by
 intro a0 a1 a2 a3 k
 unfold impl_flipped.f
 repeat' first
   | (with_reducible exact impl_Diagonal_55.mono _ _ _ _)
   | (with_reducible exact impl_Diagonal_56_s1.mono _ _)
   | (with_reducible exact impl_otherOf.mono _ _ _ _ _)
   | (with_reducible exact LeO.refl _)
   | (with_reducible exact LeO.none _)
   | (with_reducible refine LeO.ite ?_ ?_)
   | (with_reducible refine LeO.bind ?_ (fun _ => ?_))
   | exact impl_Diagonal_55.mono _ _ _ _
   | exact impl_Diagonal_56_s1.mono _ _
   | exact impl_otherOf.mono _ _ _ _ _
   | exact LeO.none _
   | refine LeO.ite ?_ ?_
   | refine LeO.bind ?_ (fun _ => ?_)
def impl_flipped.T2 : Bool × List (List Nat × List Nat) := (true, [([], []), ([], []), ([], []), ([1, 2], [1, 2]), ([], []), ([], []), ([], []), ([4, 5, 6, 3], [4, 5, 6]), ([0, 3, 0, 1, 2, 3, 4, 5, 6, 7], [0, 3]), ([8, 7, 7, 0, 1, 2, 3, 4, 5, 6, 7], [7, 8])])
def impl_flipped.B2 : List Nat := [0, 0, 0, 6, 0, 0, 0, 126, 255, 511]
theorem impl_flipped.tab2 : rtab .any (opsOf Tryd.f35 2) = impl_flipped.T2 := by kernel_rfl
theorem impl_flipped.bits2 : waitsOk impl_flipped.T2.2 impl_flipped.B2 = true := by kernel_rfl
set_option maxHeartbeats 8000000 in
set_option maxRecDepth 100000 in
theorem impl_flipped.calls (k : Nat) (a0 : Int) (A1 : Option Addr) (c1 : Nat) (l1 : List (S49)) (a2_0 : Int) (a2_1 : Int) (r : List (S49)) (w : World) (hr1 : Kd.C k49 w A1 l1.length l1) (hc1 : l1.length ≤ c1) (h : impl_flipped.f k a0 l1 a2_0 a2_1 = some r) :
  Calls Tryd.prog 35 #[.int .i64 a0, .slice A1 l1.length c1, .agg #[.int .i64 a2_0, .int .i64 a2_1]] w fun e w' => ∃ v0_ : Value, e = .returned (v0_) ∧ Kd.R k49 49 w' w.heap.size (fun _ => True) v0_ r ∧ Below w.heap.size w w' := by
 have hu49 := Tryd.underlying49
 have HR1 := Aside0.mk hr1
 have HC1 := Aside0.mk hc1
 clear hr1 hc1
 have HB := Aside0.mk (Below.refl w.heap.size w)
 have H : ((impl_Diagonal_43.f l1).bind fun t339 => ((impl_Diagonal_55.f k t339 a2_0 a2_1).bind fun t342 => ((impl_otherOf.f k a0 l1 a2_0 a2_1).bind fun bt343 => (if 0 ≤ t342 then (if t342 < (t339.length : Int) then ((impl_Diagonal_56_s1.f k (t339.set (t342 : Int).toNat (⟨bt343.1, bt343.2⟩ : S49))).bind fun t346 => (some t346)) else (none)) else (none))))) = some r := h
 clear h
 replace H := Option.bind_eq_some_iff.mp H
 obtain ⟨t339, A40, H⟩ := H
 replace H : ((impl_Diagonal_55.f k t339 a2_0 a2_1).bind fun t342 => ((impl_otherOf.f k a0 l1 a2_0 a2_1).bind fun bt343 => (if 0 ≤ t342 then (if t342 < (t339.length : Int) then ((impl_Diagonal_56_s1.f k (t339.set (t342 : Int).toNat (⟨bt343.1, bt343.2⟩ : S49))).bind fun t346 => (some t346)) else (none)) else (none)))) = some r := H
 have A4 := Aside0.mk A40
 clear A40
 replace H := Option.bind_eq_some_iff.mp H
 obtain ⟨t342, A50, H⟩ := H
 replace H : ((impl_otherOf.f k a0 l1 a2_0 a2_1).bind fun bt343 => (if 0 ≤ t342 then (if t342 < (t339.length : Int) then ((impl_Diagonal_56_s1.f k (t339.set (t342 : Int).toNat (⟨bt343.1, bt343.2⟩ : S49))).bind fun t346 => (some t346)) else (none)) else (none))) = some r := H
 have A5 := Aside0.mk A50
 clear A50
 replace H := Option.bind_eq_some_iff.mp H
 obtain ⟨⟨t343, t344⟩, A60, H⟩ := H
 replace H : (if 0 ≤ t342 then (if t342 < (t339.length : Int) then ((impl_Diagonal_56_s1.f k (t339.set (t342 : Int).toNat (⟨t343, t344⟩ : S49))).bind fun t346 => (some t346)) else (none)) else (none)) = some r := H
 have A6 := Aside0.mk A60
 clear A60
 by_cases c7 : 0 ≤ t342
 case neg=>rw [if_neg c7] at H;exact absurd H (by simp)
 rw [if_pos c7] at H
 have c7b0 : decide (0 ≤ t342) = true := decide_eq_true c7
 clear c7
 by_cases c8 : t342 < (t339.length : Int)
 case neg=>rw [if_neg c8] at H;exact absurd H (by simp)
 rw [if_pos c8] at H
 have c8b0 : decide (t342 < (t339.length : Int)) = true := decide_eq_true c8
 clear c8
 obtain ⟨y345, hy345⟩ : ∃ y_ : List (S49), y_ = (t339.set (t342 : Int).toNat (⟨t343, t344⟩ : S49)) := ⟨_, rfl⟩
 replace H : ((impl_Diagonal_56_s1.f k y345).bind fun t346 => (some t346)) = some r := hyy_ hy345 H
 have Ny345 := Aside0.mk hy345
 clear hy345
 replace H := Option.bind_eq_some_iff.mp H
 obtain ⟨t346, A100, H⟩ := H
 replace H : (some t346) = some r := H
 have A10 := Aside0.mk A100
 clear A100
 obtain rfl := Option.some.inj H
 go_enter Tryd.func35, Tryd.ntmps35
 try go_wp2_with (first | ((with_reducible refine gate_dst (N := 5) rfl ?_); refine bxe_ 5 #[.int .i64 a2_0, .int .i64 a2_1] 49 ?_; intro gb338 hg w11 hbox hb; have BK338 := Aside0.mk (hbox); have GW338 := gz_ w hg; have GE338 := gz_ w hg; replace HB := Aside0.mk (below_step blw_ hb); clear hb hbox hg) | ((with_reducible refine gate_callee (f := 43) rfl ?_); refine goesL_ (some 9) rfl rfl Tryd.func43 (by kernel_rfl) rfl #[.slice A1 l1.length c1] rfl amp_ ?_; (with_reducible refine (impl_Diagonal_43.calls _ _ l1 t339 _ ?side1 ?side2 A4.out).mono ?_); (case side1 => exact cd_ (Kd.C_below HR1.out HB.out)); (case side2 => exact HC1.out); rintro e w12 ⟨v340, rfl, ho0, hb⟩; refine ⟨_, rfl, ?_⟩; have HO341 := Aside0.mk (Kd.R_lower (Kd.R_newB ho0 (g := gb338) (o := .cells #[.int .i64 a2_0, .int .i64 a2_1] 49 (0, 0)) (bk_ BK338.out)) (below_size bls_)); replace BK338 := bb_ BK338 hb; replace HB := Aside0.mk (below_step bls_ hb); (try clear hb); (try clear hb2); (try clear hk); (try clear hi); (try clear ho0)))
 replace HO341 := Aside0.mk (Kd.R_drew HO341.out)
 replace BK338 := Aside0.mk (blk_drew BK338.out)
 replace HB := Aside0.mk (below_drew1 HB.out)
 obtain ⟨Ao14, co14, eo14⟩ := Kd.R_slice HO341.out
 (first | subst eo14 | (injection eo14 with f1_ f2_ f3_; have f4_ := f1_.symm; have f5_ := f3_.symm; clear f1_ f2_ f3_; subst f4_; subst f5_))
 refine start_ (n := 10) (S := fun w' => w'.cell? ⟨gb338, 0, none⟩ = some (.int .i64 a2_0) ∧ w'.cell? ⟨gb338, 1, none⟩ = some (.int .i64 a2_1)) (ds := [9]) #[false, false, false, false, false, false, false, false, false, false] (by kernel_rfl) rfl rfl ⟨(blk_cell BK338.out 0).trans rfl, (blk_cell BK338.out 1).trans rfl⟩ (fun hHeld => ?_); refine with_tabW impl_flipped.tab2 impl_flipped.bits2 (fun HT_ HW_ => ?_)
 generalize w12.drew = w13 at HO341 BK338 HB hHeld ⊢
 refine pux_ 0 10 HT_ ?_
 refine pux_ 1 11 HT_ ?_
 refine pux_ 4 14 HT_ ?_
 refine pux_ 5 15 HT_ ?_
 refine tak_ 2 12 HT_ HW_ hHeld ?_
 refine tak_ 6 16 HT_ HW_ hHeld ?_
 refine oner_ 3 13 HT_ (fun K hK => ?_)
 refine goes_ Tryd.func55 (by kernel_rfl) rfl #[.slice Ao14 t339.length co14, .agg #[.int .i64 a2_0, .int .i64 a2_1]] (by rfl) rfl rfl amp_ ?_
 with_reducible refine (impl_Diagonal_55.calls k _ _ t339 a2_0 a2_1 t342 _ ?side1 ?side2 A5.out).mono ?_
 (case side1 => exact cd_ (Kd.R_reads' HO341.out).2.2)
 (case side2 => exact (Kd.R_reads' HO341.out).2.1)
 rintro e w15 ⟨rfl, hb⟩
 refine ⟨_, rfl, ?_⟩
 replace HO341 := Aside0.mk (Kd.R_below (ra_ HO341.out) hb)
 replace BK338 := bb_ BK338 hb
 replace HB := Aside0.mk (below_step bls_ hb)
 (try clear hb)
 (try clear hb2)
 (try clear hk)
 (try clear hi)
 refine hK.out _ _ ⟨(blk_cell BK338.out 0).trans rfl, (blk_cell BK338.out 1).trans rfl⟩ (fun hHeld => ?_)
 clear hK K
 refine nor_ 13 ?_
 refine oner_ 7 17 HT_ (fun K hK => ?_)
 refine goes_ Tryd.func54 (by kernel_rfl) rfl #[.int .i64 a0, .slice A1 l1.length c1, .agg #[.int .i64 a2_0, .int .i64 a2_1]] (by rfl) rfl rfl amp_ ?_
 with_reducible refine (impl_otherOf.calls k a0 _ _ l1 a2_0 a2_1 t343 t344 _ ?side1 ?side2 A6.out).mono ?_
 (case side1 => exact cd_ (Kd.C_below HR1.out HB.out))
 (case side2 => exact HC1.out)
 rintro e w16 ⟨rfl, hb⟩
 refine ⟨_, rfl, ?_⟩
 replace HO341 := Aside0.mk (Kd.R_below (ra_ HO341.out) hb)
 replace BK338 := bb_ BK338 hb
 replace HB := Aside0.mk (below_step bls_ hb)
 (try clear hb)
 (try clear hb2)
 (try clear hk)
 (try clear hi)
 have p9 : 0 ≤ (t342 : Int) := odt_
 have q9 : (t342 : Int) < ((t339.length : Int) : Int) := odt_
 obtain ⟨go9, co9, eo9, gb9, gl9, cl9, HG9⟩ := Kd.R_form HO341.out (by omega)
 (first | cases eo9 | (injection eo9 with ea_ en_ ec_; (first | subst ea_ | (injection ea_ with ea_; subst ea_)); subst ec_; clear en_))
 have GB9 := Aside0.mk gb9
 have GG9 := Aside0.mk HG9
 clear gb9 gl9 HG9
 obtain ⟨ce9, hcl9, hM9, hcc9, hfr9⟩ := Kd.R_elem HO341.out z49 (t342 : Int) p9 q9
 obtain rfl := k49_openM hM9
 have hx9_0 : World.cell? _ ⟨go9, (t342 : Int).toNat * 2, none⟩ = some (.int .i64 ((rd_T49 t339 t342).f0)) := hcc9 0 _ rfl
 have hx9_1 : World.cell? _ ⟨go9, (t342 : Int).toNat * 2 + 1, none⟩ = some (.int .i64 ((rd_T49 t339 t342).f1)) := hcc9 1 _ rfl
 have hf9_0 : World.frozen? _ ⟨go9, (t342 : Int).toNat * 2, none⟩ = false := hfr9 0
 have hf9_1 : World.frozen? _ ⟨go9, (t342 : Int).toNat * 2 + 1, none⟩ = false := hfr9 1
 clear hcl9 hcc9 hfr9 hM9
 replace p9 := eq_true p9
 replace q9 := eq_true q9
 obtain ⟨ce17, hcl17, hM17, hcc17, hfr17⟩ := Kd.R_elem HO341.out z49 (t342 : Int) (odt_) (by have h_ : (t342 : Int) < ((t339.length : Int) : Int) := odt_; first | exact h_ | (have e_ := (Kd.R_reads' HO341.out).1; omega) | simpa using h_)
 obtain rfl := k49_openM hM17
 have HP17 := (Kd.R_seg HO341.out (t342 : Int) (odt_) (by have h_ : (t342 : Int) < ((t339.length : Int) : Int) := odt_; first | exact h_ | (have e_ := (Kd.R_reads' HO341.out).1; omega) | simpa using h_) (seg := [.int .i64 t343, .int .i64 t344]) (j := 0) hcl17 hcc17 (show 2 ≤ 2 from by decide) (x' := (⟨t343, t344⟩ : S49)) (k49_mkM _ _ _ (⟨t343, t344⟩ : S49) ) (fun _ hk => hk)).1
 rw [← Ny345.out] at HP17
 have HQ17 := Aside0.mk HP17
 clear hcl17 hcc17 hfr17 hM17 HP17
 refine hK.out _ _ ⟨(blk_cell BK338.out 0).trans rfl, (blk_cell BK338.out 1).trans rfl⟩ (fun hHeld => ?_)
 clear hK K
 refine nor_ 17 ?_
 refine pux_ 8 18 HT_ ?_
 refine last_ (i := 9) (N := none) #[true, true, true, true, true, true, true, true, true, true] rfl rfl (one_of HT_.out (by kernel_rfl)) (by decide) (fun K hK => ?_)
 refine skip_ (w1 := ?_) (by rfl) rfl ?_ ?_
 rotate_left
 ·go_simp
  rfl
 refine hK.out _ _ ?_
 clear hK K
 refine done_ (done_of HT_.out (by kernel_rfl)) ?_
 have n0_ : Aside0 (Kd.R k49 49 ((w16.setCell ⟨go9, (t342 : Int).toNat * 2, none⟩ (.int .i64 t343)).setCell ⟨go9, (t342 : Int).toNat * 2 + 1, none⟩ (.int .i64 t344)) w.heap.size (fun k_ => k_ ≠ gb338) (.slice (some ⟨go9, 0, none⟩) t339.length co14) y345) := ⟨by (with_reducible repeat (first | apply Kd.R_alloc | apply Kd.R_drewN | apply Kd.R_drew)); exact Kd.R_mono HQ17.out (fun _ hk => hk.2)⟩
 have n1_ : Aside0 (((w16.setCell ⟨go9, (t342 : Int).toNat * 2, none⟩ (.int .i64 t343)).setCell ⟨go9, (t342 : Int).toNat * 2 + 1, none⟩ (.int .i64 t344)).heap[gb338]? = some (.cells #[.int .i64 a2_0, .int .i64 a2_1] 49 (0, 0))) := ⟨by (with_reducible repeat (first | refine blk_drewN ?_ _ | refine blk_drew ?_ | refine blk_alloc ?_ _)); refine blk_far ?_ (by have h_ := Kd.R_away HO341.out (fun _ hk => hk.2); intro e_; exact h_ (by rw [e_]; rfl)) _; (with_reducible repeat (first | refine blk_drewN ?_ _ | refine blk_drew ?_ | refine blk_alloc ?_ _)); refine blk_far ?_ (by have h_ := Kd.R_away HO341.out (fun _ hk => hk.2); intro e_; exact h_ (by rw [e_]; rfl)) _; (with_reducible repeat (first | refine blk_drewN ?_ _ | refine blk_drew ?_ | refine blk_alloc ?_ _)); exact BK338.out⟩
 have n2_ : Aside0 (Below w.heap.size w ((w16.setCell ⟨go9, (t342 : Int).toNat * 2, none⟩ (.int .i64 t343)).setCell ⟨go9, (t342 : Int).toNat * 2 + 1, none⟩ (.int .i64 t344))) := ⟨by repeat (first | (with_reducible first | exact HB.out | apply below_alloc | apply pw_below_drewN | apply below_drew1 | refine below_set ?_ GB9.out | refine below_set ?_ GB9.out | refine below_set ?_ GE338.out) | exact HB.out)⟩
 (try clear HO341)
 (try clear BK338)
 (try clear HB)
 generalize ((w16.setCell ⟨go9, (t342 : Int).toNat * 2, none⟩ (.int .i64 t343)).setCell ⟨go9, (t342 : Int).toNat * 2 + 1, none⟩ (.int .i64 t344)) = w18 at n0_ n1_ n2_ ⊢
 have HO341 := n0_
 have BK338 := n1_
 have HB := n2_
 clear n0_ n1_ n2_
 try go_wp2_with (first | ((with_reducible refine gate_callee (f := 56) rfl ?_); refine goesL_ (some 20) rfl rfl Tryd.func56 (by kernel_rfl) rfl #[.slice (some ⟨go9, 0, none⟩) t339.length co14, .func (.func 57) #[] #[]] rfl amp_ ?_; (with_reducible refine (impl_Diagonal_56_s1.calls k (fun k_ => some k_ = (.slice (some ⟨go9, 0, none⟩) t339.length co14 : Value).ownBlock) (.slice (some ⟨go9, 0, none⟩) t339.length co14) y345  t346 w _ ?side1 ?side2 A10.out).mono ?_); (case side1 => repeat (first | (with_reducible first | exact HB.out | apply below_alloc | apply pw_below_drewN | apply below_drew1 | refine below_set ?_ GE338.out) | exact HB.out)); (case side2 => exact Kd.R_tight rfl HO341.out); rintro e w19 ⟨rfl, hy0, hb, hkp⟩; refine ⟨_, rfl, ?_⟩; replace BK338 := Aside0.mk (blk_kept (bk_ BK338.out) hkp (fun hs_ => (fun e_ => (Kd.R_away HO341.out (fun _ hk => hk)) e_) hs_)); replace HO341 := Aside0.mk (Kd.R_reok rfl hy0 (fun k_ e_ => HO341.out.1 k_ e_)); replace HB := Aside0.mk (hb); (try clear hb); (try clear hkp); (try clear hy0)))
 go_ret
 exact ⟨_, by first | rfl | (simp [errW_none, errW_some] <;> rfl) | (simp [*, errW_none, errW_some] <;> rfl), by (with_reducible repeat (first | apply Kd.R_alloc | apply Kd.R_drewN | apply Kd.R_drew)); exact Kd.R_mono HO341.out (fun _ hk => trivial), bls_⟩

end Go.Proofs.YtgblginphicacaaDoor.PFnExactFarthestByFlips
