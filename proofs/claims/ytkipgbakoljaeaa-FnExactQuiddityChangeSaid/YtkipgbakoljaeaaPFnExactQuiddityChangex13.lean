-- WRITTEN BY A PROGRAM OF THIS WORK (wip/tools/ppatch.py) for this claim.
import Derived.Test.YtkipgbakoljaeaaPFnExactQuiddityChangex0
import Derived.Test.YtkipgbakoljaeaaPFnExactQuiddityChangex11
import Derived.Test.YtkipgbakoljaeaaPFnExactQuiddityChangex12
namespace Go.Proofs.Ytkipgbakoljaeaa.PFnExactQuiddityChange
open Go.RowKit Go.Proofs.YtkipgbakoljaeaaW.PrintWords Go.Proofs.YtkipgbakoljaeaaW.PrintLast Go.Proofs.YtkipgbakoljaeaaW.PrintMore
attribute [local go_sem] max2_int min2_int max_two min_two max_three min_three max_four min_four   -- for this text's walks alone
set_option linter.unusedVariables false
set_option linter.unusedSimpArgs false

/-! ### impl_QuiddityChange: function 29 -/
def impl_QuiddityChange.f (k : Nat) (a0 : Int) (l1 : List (S36)) (a2_0 : Int) (a2_1 : Int) : Option (List Int × Bool) := (impl_isFlip.f k a0 l1 a2_0 a2_1).bind fun t315 => (if t315 = true then (if 0 ≤ a0 then (if (a0 : Int).toNat ≤ 35184372088832 then ((some (List.replicate (a0 : Int).toNat 0 : List Int)).bind fun y316 => ((impl_otherOf.f k a0 l1 a2_0 a2_1).bind fun bt319 => (if 0 ≤ a2_0 then (if a2_0 < (y316.length : Int) then ((some (y316.set (a2_0 : Int).toNat (wrap64 ((rd y316 a2_0) - 1)) : List Int)).bind fun y323 => (if 0 ≤ a2_1 then (if a2_1 < (y316.length : Int) then ((some (y323.set (a2_1 : Int).toNat (wrap64 ((rd y323 a2_1) - 1)) : List Int)).bind fun y325 => (if 0 ≤ bt319.1 then (if bt319.1 < (y316.length : Int) then ((some (y325.set (bt319.1 : Int).toNat (wrap64 ((rd y325 bt319.1) + 1)) : List Int)).bind fun y327 => (if 0 ≤ bt319.2 then (if bt319.2 < (y316.length : Int) then (some ((y327.set (bt319.2 : Int).toNat (wrap64 ((rd y327 bt319.2) + 1))), true)) else (none)) else (none))) else (none)) else (none))) else (none)) else (none))) else (none)) else (none)))) else (none)) else (none)) else (some (([] : List Int), false)))
theorem impl_QuiddityChange.mono : ∀ a0 a1 a2 a3 k, LeO (impl_QuiddityChange.f k a0 a1 a2 a3) (impl_QuiddityChange.f (k + 1) a0 a1 a2 a3) := by
 intro a0 a1 a2 a3 k
 unfold impl_QuiddityChange.f
 repeat' first
   | (with_reducible exact impl_isFlip.mono _ _ _ _ _)
   | (with_reducible exact impl_otherOf.mono _ _ _ _ _)
   | (with_reducible exact LeO.refl _)
   | (with_reducible exact LeO.none _)
   | (with_reducible refine LeO.ite ?_ ?_)
   | (with_reducible refine LeO.bind ?_ (fun _ => ?_))
   | exact impl_isFlip.mono _ _ _ _ _
   | exact impl_otherOf.mono _ _ _ _ _
   | exact LeO.none _
   | refine LeO.ite ?_ ?_
   | refine LeO.bind ?_ (fun _ => ?_)
def impl_QuiddityChange.T3 : Bool × List (List Nat × List Nat) := (true, [([], []), ([0, 0], [0]), ([], []), ([], []), ([], []), ([2, 3, 4], [2, 3, 4]), ([], []), ([1, 5, 0, 1, 6], [1]), ([6, 5, 7, 0, 1, 2, 3, 4, 5, 6, 7], [5, 6])])
def impl_QuiddityChange.B3 : List Nat := [0, 1, 0, 0, 0, 28, 0, 127, 255]
theorem impl_QuiddityChange.tab3 : rtab .any (opsOf Try.f29 3) = impl_QuiddityChange.T3 := by kernel_rfl
theorem impl_QuiddityChange.bits3 : waitsOk impl_QuiddityChange.T3.2 impl_QuiddityChange.B3 = true := by kernel_rfl
set_option maxHeartbeats 8000000 in
set_option maxRecDepth 100000 in
theorem impl_QuiddityChange.calls (k : Nat) (a0 : Int) (A1 : Option Addr) (c1 : Nat) (l1 : List (S36)) (a2_0 : Int) (a2_1 : Int) (r1 : List Int) (r2 : Bool) (w : World) (hr1 : Kd.C k36 w A1 l1.length l1) (hc1 : l1.length ≤ c1) (h : impl_QuiddityChange.f k a0 l1 a2_0 a2_1 = some (r1, r2)) :
  Calls Try.prog 29 #[.int .i64 a0, .slice A1 l1.length c1, .agg #[.int .i64 a2_0, .int .i64 a2_1]] w fun e w' => ∃ v0_ : Value, e = .returned (.tuple #[v0_, .bool r2]) ∧ Kd.R (Kd.int .i64) 3 w' w.heap.size (fun _ => True) v0_ r1 ∧ Below w.heap.size w w' := by
 have hu36 := Try.underlying36
 have HR1 := Aside0.mk hr1
 have HC1 := Aside0.mk hc1
 clear hr1 hc1
 have HB := Aside0.mk (Below.refl w.heap.size w)
 have H : ((impl_isFlip.f k a0 l1 a2_0 a2_1).bind fun t315 => (if t315 = true then (if 0 ≤ a0 then (if (a0 : Int).toNat ≤ 35184372088832 then ((some (List.replicate (a0 : Int).toNat 0 : List Int)).bind fun y316 => ((impl_otherOf.f k a0 l1 a2_0 a2_1).bind fun bt319 => (if 0 ≤ a2_0 then (if a2_0 < (y316.length : Int) then ((some (y316.set (a2_0 : Int).toNat (wrap64 ((rd y316 a2_0) - 1)) : List Int)).bind fun y323 => (if 0 ≤ a2_1 then (if a2_1 < (y316.length : Int) then ((some (y323.set (a2_1 : Int).toNat (wrap64 ((rd y323 a2_1) - 1)) : List Int)).bind fun y325 => (if 0 ≤ bt319.1 then (if bt319.1 < (y316.length : Int) then ((some (y325.set (bt319.1 : Int).toNat (wrap64 ((rd y325 bt319.1) + 1)) : List Int)).bind fun y327 => (if 0 ≤ bt319.2 then (if bt319.2 < (y316.length : Int) then (some ((y327.set (bt319.2 : Int).toNat (wrap64 ((rd y327 bt319.2) + 1))), true)) else (none)) else (none))) else (none)) else (none))) else (none)) else (none))) else (none)) else (none)))) else (none)) else (none)) else (some (([] : List Int), false)))) = some (r1, r2) := h
 clear h
 replace H := Option.bind_eq_some_iff.mp H
 obtain ⟨t315, A40, H⟩ := H
 replace H : (if t315 = true then (if 0 ≤ a0 then (if (a0 : Int).toNat ≤ 35184372088832 then ((some (List.replicate (a0 : Int).toNat 0 : List Int)).bind fun y316 => ((impl_otherOf.f k a0 l1 a2_0 a2_1).bind fun bt319 => (if 0 ≤ a2_0 then (if a2_0 < (y316.length : Int) then ((some (y316.set (a2_0 : Int).toNat (wrap64 ((rd y316 a2_0) - 1)) : List Int)).bind fun y323 => (if 0 ≤ a2_1 then (if a2_1 < (y316.length : Int) then ((some (y323.set (a2_1 : Int).toNat (wrap64 ((rd y323 a2_1) - 1)) : List Int)).bind fun y325 => (if 0 ≤ bt319.1 then (if bt319.1 < (y316.length : Int) then ((some (y325.set (bt319.1 : Int).toNat (wrap64 ((rd y325 bt319.1) + 1)) : List Int)).bind fun y327 => (if 0 ≤ bt319.2 then (if bt319.2 < (y316.length : Int) then (some ((y327.set (bt319.2 : Int).toNat (wrap64 ((rd y327 bt319.2) + 1))), true)) else (none)) else (none))) else (none)) else (none))) else (none)) else (none))) else (none)) else (none)))) else (none)) else (none)) else (some (([] : List Int), false))) = some (r1, r2) := H
 have A4 := Aside0.mk A40
 clear A40
 by_cases c5 : t315 = true
 ·subst c5
  have H1 : (if 0 ≤ a0 then (if (a0 : Int).toNat ≤ 35184372088832 then ((some (List.replicate (a0 : Int).toNat 0 : List Int)).bind fun y316 => ((impl_otherOf.f k a0 l1 a2_0 a2_1).bind fun bt319 => (if 0 ≤ a2_0 then (if a2_0 < (y316.length : Int) then ((some (y316.set (a2_0 : Int).toNat (wrap64 ((rd y316 a2_0) - 1)) : List Int)).bind fun y323 => (if 0 ≤ a2_1 then (if a2_1 < (y316.length : Int) then ((some (y323.set (a2_1 : Int).toNat (wrap64 ((rd y323 a2_1) - 1)) : List Int)).bind fun y325 => (if 0 ≤ bt319.1 then (if bt319.1 < (y316.length : Int) then ((some (y325.set (bt319.1 : Int).toNat (wrap64 ((rd y325 bt319.1) + 1)) : List Int)).bind fun y327 => (if 0 ≤ bt319.2 then (if bt319.2 < (y316.length : Int) then (some ((y327.set (bt319.2 : Int).toNat (wrap64 ((rd y327 bt319.2) + 1))), true)) else (none)) else (none))) else (none)) else (none))) else (none)) else (none))) else (none)) else (none)))) else (none)) else (none)) = some (r1, r2) := by rw [if_pos rfl] at H; exact H
  clear H
  have H := H1
  clear H1
  by_cases c6 : 0 ≤ a0
  ·rw [if_pos c6] at H
   have c6b0 := eq_true c6
   have c6b1 : decide (0 ≤ a0) = true := decide_eq_true c6
   clear c6
   by_cases c7 : (a0 : Int).toNat ≤ 35184372088832
   ·rw [if_pos c7] at H
    have c7b0 := eq_true c7
    have c7b1 : decide ((a0 : Int).toNat ≤ 35184372088832) = true := decide_eq_true c7
    clear c7
    obtain ⟨y316, hy316⟩ : ∃ y_ : List Int, y_ = (List.replicate (a0 : Int).toNat 0) := ⟨_, rfl⟩
    replace H : ((impl_otherOf.f k a0 l1 a2_0 a2_1).bind fun bt319 => (if 0 ≤ a2_0 then (if a2_0 < (y316.length : Int) then ((some (y316.set (a2_0 : Int).toNat (wrap64 ((rd y316 a2_0) - 1)) : List Int)).bind fun y323 => (if 0 ≤ a2_1 then (if a2_1 < (y316.length : Int) then ((some (y323.set (a2_1 : Int).toNat (wrap64 ((rd y323 a2_1) - 1)) : List Int)).bind fun y325 => (if 0 ≤ bt319.1 then (if bt319.1 < (y316.length : Int) then ((some (y325.set (bt319.1 : Int).toNat (wrap64 ((rd y325 bt319.1) + 1)) : List Int)).bind fun y327 => (if 0 ≤ bt319.2 then (if bt319.2 < (y316.length : Int) then (some ((y327.set (bt319.2 : Int).toNat (wrap64 ((rd y327 bt319.2) + 1))), true)) else (none)) else (none))) else (none)) else (none))) else (none)) else (none))) else (none)) else (none))) = some (r1, r2) := by first | (rw [hy316]; with_reducible exact H) | (have H2_ := (Option.bind_some _ _).symm.trans H; rw [hy316]; with_reducible exact H2_) | (have H2_ := (Option.bind_some _ _).symm.trans H; with_reducible exact H2_) | with_reducible exact H | (rw [hy316]; exact H) | exact H
    have Ny316 := Aside0.mk hy316
    clear hy316
    replace H := Option.bind_eq_some_iff.mp H
    obtain ⟨⟨t319, t320⟩, A80, H⟩ := H
    replace H : (if 0 ≤ a2_0 then (if a2_0 < (y316.length : Int) then ((some (y316.set (a2_0 : Int).toNat (wrap64 ((rd y316 a2_0) - 1)) : List Int)).bind fun y323 => (if 0 ≤ a2_1 then (if a2_1 < (y316.length : Int) then ((some (y323.set (a2_1 : Int).toNat (wrap64 ((rd y323 a2_1) - 1)) : List Int)).bind fun y325 => (if 0 ≤ t319 then (if t319 < (y316.length : Int) then ((some (y325.set (t319 : Int).toNat (wrap64 ((rd y325 t319) + 1)) : List Int)).bind fun y327 => (if 0 ≤ t320 then (if t320 < (y316.length : Int) then (some ((y327.set (t320 : Int).toNat (wrap64 ((rd y327 t320) + 1))), true)) else (none)) else (none))) else (none)) else (none))) else (none)) else (none))) else (none)) else (none)) = some (r1, r2) := H
    have A8 := Aside0.mk A80
    clear A80
    by_cases c9 : 0 ≤ a2_0
    ·rw [if_pos c9] at H
     have c9b0 : decide (0 ≤ a2_0) = true := decide_eq_true c9
     clear c9
     by_cases c10 : a2_0 < (y316.length : Int)
     ·rw [if_pos c10] at H
      have c10b0 : decide (a2_0 < (y316.length : Int)) = true := decide_eq_true c10
      clear c10
      obtain ⟨y323, hy323⟩ : ∃ y_ : List Int, y_ = (y316.set (a2_0 : Int).toNat (wrap64 ((rd y316 a2_0) - 1))) := ⟨_, rfl⟩
      replace H : (if 0 ≤ a2_1 then (if a2_1 < (y316.length : Int) then ((some (y323.set (a2_1 : Int).toNat (wrap64 ((rd y323 a2_1) - 1)) : List Int)).bind fun y325 => (if 0 ≤ t319 then (if t319 < (y316.length : Int) then ((some (y325.set (t319 : Int).toNat (wrap64 ((rd y325 t319) + 1)) : List Int)).bind fun y327 => (if 0 ≤ t320 then (if t320 < (y316.length : Int) then (some ((y327.set (t320 : Int).toNat (wrap64 ((rd y327 t320) + 1))), true)) else (none)) else (none))) else (none)) else (none))) else (none)) else (none)) = some (r1, r2) := by first | (rw [hy323]; with_reducible exact H) | (have H2_ := (Option.bind_some _ _).symm.trans H; rw [hy323]; with_reducible exact H2_) | (have H2_ := (Option.bind_some _ _).symm.trans H; with_reducible exact H2_) | with_reducible exact H | (rw [hy323]; exact H) | exact H
      have Ny323 := Aside0.mk hy323
      clear hy323
      by_cases c12 : 0 ≤ a2_1
      ·rw [if_pos c12] at H
       have c12b0 : decide (0 ≤ a2_1) = true := decide_eq_true c12
       clear c12
       by_cases c13 : a2_1 < (y316.length : Int)
       ·rw [if_pos c13] at H
        have c13b0 : decide (a2_1 < (y316.length : Int)) = true := decide_eq_true c13
        clear c13
        obtain ⟨y325, hy325⟩ : ∃ y_ : List Int, y_ = (y323.set (a2_1 : Int).toNat (wrap64 ((rd y323 a2_1) - 1))) := ⟨_, rfl⟩
        replace H : (if 0 ≤ t319 then (if t319 < (y316.length : Int) then ((some (y325.set (t319 : Int).toNat (wrap64 ((rd y325 t319) + 1)) : List Int)).bind fun y327 => (if 0 ≤ t320 then (if t320 < (y316.length : Int) then (some ((y327.set (t320 : Int).toNat (wrap64 ((rd y327 t320) + 1))), true)) else (none)) else (none))) else (none)) else (none)) = some (r1, r2) := by first | (rw [hy325]; with_reducible exact H) | (have H2_ := (Option.bind_some _ _).symm.trans H; rw [hy325]; with_reducible exact H2_) | (have H2_ := (Option.bind_some _ _).symm.trans H; with_reducible exact H2_) | with_reducible exact H | (rw [hy325]; exact H) | exact H
        have Ny325 := Aside0.mk hy325
        clear hy325
        by_cases c15 : 0 ≤ t319
        ·rw [if_pos c15] at H
         have c15b0 : decide (0 ≤ t319) = true := decide_eq_true c15
         clear c15
         by_cases c16 : t319 < (y316.length : Int)
         ·rw [if_pos c16] at H
          have c16b0 : decide (t319 < (y316.length : Int)) = true := decide_eq_true c16
          clear c16
          obtain ⟨y327, hy327⟩ : ∃ y_ : List Int, y_ = (y325.set (t319 : Int).toNat (wrap64 ((rd y325 t319) + 1))) := ⟨_, rfl⟩
          replace H : (if 0 ≤ t320 then (if t320 < (y316.length : Int) then (some ((y327.set (t320 : Int).toNat (wrap64 ((rd y327 t320) + 1))), true)) else (none)) else (none)) = some (r1, r2) := by first | (rw [hy327]; with_reducible exact H) | (have H2_ := (Option.bind_some _ _).symm.trans H; rw [hy327]; with_reducible exact H2_) | (have H2_ := (Option.bind_some _ _).symm.trans H; with_reducible exact H2_) | with_reducible exact H | (rw [hy327]; exact H) | exact H
          have Ny327 := Aside0.mk hy327
          clear hy327
          by_cases c18 : 0 ≤ t320
          ·rw [if_pos c18] at H
           have c18b0 : decide (0 ≤ t320) = true := decide_eq_true c18
           clear c18
           by_cases c19 : t320 < (y316.length : Int)
           ·rw [if_pos c19] at H
            have c19b0 : decide (t320 < (y316.length : Int)) = true := decide_eq_true c19
            clear c19
            obtain ⟨y329, hy329⟩ : ∃ y_ : List Int, y_ = (y327.set (t320 : Int).toNat (wrap64 ((rd y327 t320) + 1))) := ⟨_, rfl⟩
            replace H : (some (y329, true)) = some (r1, r2) := by first | (rw [hy329]; with_reducible exact H) | (have H2_ := (Option.bind_some _ _).symm.trans H; rw [hy329]; with_reducible exact H2_) | (have H2_ := (Option.bind_some _ _).symm.trans H; with_reducible exact H2_) | with_reducible exact H | (rw [hy329]; exact H) | exact H
            have Ny329 := Aside0.mk hy329
            clear hy329
            simp only [Option.some.injEq, Prod.mk.injEq] at H
            obtain ⟨rfl, rfl⟩ := H
            go_enter Try.func29, Try.ntmps29
            try go_wp2_with (first | ((with_reducible refine gate_dst (N := 5) rfl ?_); refine box_event ?hg (N := 5) ?hd (cs := #[.int .i64 a2_0, .int .i64 a2_1]) (t := 36) ?hr ?_; (case hd => rfl); (case hg => rfl); (case hr => first | (go_simp; done) | (go_simp; rfl)); intro gb314 hg w21 hbox hb; have n0_ := Aside0.mk (below_step blw_ hb); have n1_ := Aside0.mk (hbox); have n2_ := Aside0.mk ((by rw [hg]; exact (below_size blw_) : w.heap.size ≤ gb314)); have n3_ := Aside0.mk ((by rw [hg]; exact (below_size blw_) : w.heap.size ≤ gb314)); clear HB; have HB := n0_; have BK314 := n1_; have GW314 := n2_; have GE314 := n3_; clear n0_ n1_ n2_ n3_; clear hb hbox hg; have hcz22_0 : w21.cell? ⟨gb314, 0, none⟩ = some (.int .i64 a2_0) := (blk_cell BK314.out 0).trans rfl; have hcz22_1 : w21.cell? ⟨gb314, 1, none⟩ = some (.int .i64 a2_1) := (blk_cell BK314.out 1).trans rfl; have hfz22_0 := blk_frozen BK314.out 0; have hfz22_1 := blk_frozen BK314.out 1) | ((with_reducible refine gate_callee (f := 68) rfl ?_); refine goesL_ (some 13) rfl rfl Try.func68 (by kernel_rfl) rfl #[.int .i64 a0, .slice A1 l1.length c1, .agg #[.int .i64 a2_0, .int .i64 a2_1]] rfl amp_ ?_; (with_reducible refine (impl_isFlip.calls k a0 _ _ l1 a2_0 a2_1 true _ ?side1 ?side2 A4.out).mono ?_); (case side1 => repeat (first | exact (Kd.C_below HR1.out HB.out) | (with_reducible refine Kd.C_alloc ?_ _) | (with_reducible refine Kd.C_drewN ?_ _) | (with_reducible refine Kd.C_drew ?_))); (case side2 => exact HC1.out); rintro e w23 ⟨rfl, hb⟩; refine ⟨_, rfl, ?_⟩; have n0_ := Aside0.mk (blk_below (g := gb314) (o := .cells #[.int .i64 a2_0, .int .i64 a2_1] 36 (0, 0)) (bk_ BK314.out) hb); have n1_ := Aside0.mk (below_step (by repeat (first | (with_reducible first | exact HB.out | apply below_alloc | apply pw_below_drewN | apply below_drew1 | refine below_set ?_ GE314.out) | exact HB.out)) hb); clear BK314; clear HB; have BK314 := n0_; have HB := n1_; clear n0_ n1_; (try clear hb); (try clear hb2); (try clear hk); (try clear hi)))
            have n0_ := Aside0.mk (blk_drew BK314.out)
            have n1_ := Aside0.mk (below_drew1 HB.out)
            clear BK314
            clear HB
            have BK314 := n0_
            have HB := n1_
            clear n0_ n1_
            refine start_ (n := 9) (S := fun w' => w'.cell? ⟨gb314, 0, none⟩ = some (.int .i64 a2_0) ∧ w'.cell? ⟨gb314, 1, none⟩ = some (.int .i64 a2_1)) (ds := []) #[false, false, false, false, false, false, false, false, false] (by kernel_rfl) rfl rfl ⟨(blk_cell BK314.out 0).trans rfl, (blk_cell BK314.out 1).trans rfl⟩ (fun hHeld => ?_); refine with_tabW impl_QuiddityChange.tab3 impl_QuiddityChange.bits3 (fun HT_ HW_ => ?_)
            generalize w23.drew = w24 at BK314 HB hHeld ⊢
            refine pure_ (i := 0) (N := some 15) (v := ?_) (a' := ?_) #[true, false, false, false, false, false, false, false, false] rfl rfl (any_of HT_.out (by kernel_rfl)) (fun _ _ _ h => h) (Or.inl ⟨by rfl, ?_⟩) ?_ ?_
            rotate_left
            ·intro w'
             go_simp
             with_reducible rfl
            rotate_left
            ·simp only [Act.put, List.setIfInBounds_toArray, List.set_cons_zero, List.set_cons_succ, i64_w, i32_w]
             rfl
            refine pure_ (i := 2) (N := some 17) (v := ?_) (a' := ?_) #[true, false, true, false, false, false, false, false, false] rfl rfl (any_of HT_.out (by kernel_rfl)) (fun _ _ _ h => h) (Or.inl ⟨by rfl, ?_⟩) ?_ ?_
            rotate_left
            ·intro w'
             go_simp
             with_reducible rfl
            rotate_left
            ·simp only [Act.put, List.setIfInBounds_toArray, List.set_cons_zero, List.set_cons_succ, i64_w, i32_w]
             rfl
            refine pure_ (i := 3) (N := some 18) (v := ?_) (a' := ?_) #[true, false, true, true, false, false, false, false, false] rfl rfl (any_of HT_.out (by kernel_rfl)) (fun _ _ _ h => h) (Or.inl ⟨by rfl, ?_⟩) ?_ ?_
            rotate_left
            ·intro w'
             go_simp
             with_reducible rfl
            rotate_left
            ·simp only [Act.put, List.setIfInBounds_toArray, List.set_cons_zero, List.set_cons_succ, i64_w, i32_w]
             rfl
            refine take_ (i := 4) (N := some 19) (v := ?_) (a' := ?_) #[true, false, true, true, true, false, false, false, false] rfl rfl (take_ofW HT_.out HW_.out (by kernel_rfl)) (fun _ _ _ h => h) (Or.inl ⟨by rfl, ?_⟩) hHeld ?_ ?_
            rotate_left
            ·rintro w' ⟨s0, s1⟩
             go_simp
             with_reducible rfl
            rotate_left
            ·simp only [Act.put, List.setIfInBounds_toArray, List.set_cons_zero, List.set_cons_succ, i64_w, i32_w]
             rfl
            refine join_ (σ := Value × Nat) 2 #[true, true, true, true, true, true, true, false, false] (fun s_ => [(16, s_.1), (20, .agg #[.int .i64 t319, .int .i64 t320]), (9, .pointer (some ⟨s_.2, 0, none⟩))]) (fun s_ w' => (w'.cell? ⟨gb314, 0, none⟩ = some (.int .i64 a2_0) ∧ w'.cell? ⟨gb314, 1, none⟩ = some (.int .i64 a2_1)) ∧ (Kd.R (Kd.int .i64) 3 w' w.heap.size (fun _ => True) s_.1 y316) ∧ (w'.heap[gb314]? = some (.cells #[.int .i64 a2_0, .int .i64 a2_1] 36 (0, 0))) ∧ (w'.heap[s_.2]? = some (.cells #[.int .i64 0, .int .i64 0] 36 (0, 0))) ∧ (w.heap.size ≤ s_.2) ∧ (w.heap.size ≤ s_.2) ∧ (gb314 ≠ s_.2) ∧ (s_.2 ≠ gb314) ∧ (Below w.heap.size w w')) ?_ ?_
            rotate_left
            ·intro hJ1_5_6
             refine join_ (σ := Value) 3 #[true, true, true, true, true, true, false, false, false] (fun s_ => [(16, s_), (20, .agg #[.int .i64 t319, .int .i64 t320])]) (fun s_ w' => (w'.cell? ⟨gb314, 0, none⟩ = some (.int .i64 a2_0) ∧ w'.cell? ⟨gb314, 1, none⟩ = some (.int .i64 a2_1)) ∧ (Kd.R (Kd.int .i64) 3 w' w.heap.size (fun _ => True) s_ y316) ∧ (w'.heap[gb314]? = some (.cells #[.int .i64 a2_0, .int .i64 a2_1] 36 (0, 0))) ∧ (Below w.heap.size w w')) ?_ ?_
             rotate_left
             ·intro hJ1_5
              refine join_ (σ := Value × Nat) 3 #[true, true, true, true, true, false, true, false, false] (fun s_ => [(16, s_.1), (9, .pointer (some ⟨s_.2, 0, none⟩))]) (fun s_ w' => (w'.cell? ⟨gb314, 0, none⟩ = some (.int .i64 a2_0) ∧ w'.cell? ⟨gb314, 1, none⟩ = some (.int .i64 a2_1)) ∧ (Kd.R (Kd.int .i64) 3 w' w.heap.size (fun _ => True) s_.1 y316) ∧ (w'.heap[gb314]? = some (.cells #[.int .i64 a2_0, .int .i64 a2_1] 36 (0, 0))) ∧ (w'.heap[s_.2]? = some (.cells #[.int .i64 0, .int .i64 0] 36 (0, 0))) ∧ (w.heap.size ≤ s_.2) ∧ (w.heap.size ≤ s_.2) ∧ (gb314 ≠ s_.2) ∧ (s_.2 ≠ gb314) ∧ (Below w.heap.size w w')) ?_ ?_
              rotate_left
              ·intro hJ1_6
               refine join_ (σ := Nat) 3 #[true, false, true, true, true, true, true, false, false] (fun s_ => [(20, .agg #[.int .i64 t319, .int .i64 t320]), (9, .pointer (some ⟨s_, 0, none⟩))]) (fun s_ w' => (w'.cell? ⟨gb314, 0, none⟩ = some (.int .i64 a2_0) ∧ w'.cell? ⟨gb314, 1, none⟩ = some (.int .i64 a2_1)) ∧ (w'.heap[gb314]? = some (.cells #[.int .i64 a2_0, .int .i64 a2_1] 36 (0, 0))) ∧ (w'.heap[s_]? = some (.cells #[.int .i64 0, .int .i64 0] 36 (0, 0))) ∧ (w.heap.size ≤ s_) ∧ (w.heap.size ≤ s_) ∧ (gb314 ≠ s_) ∧ (s_ ≠ gb314) ∧ (Below w.heap.size w w')) ?_ ?_
               rotate_left
               ·intro hJ5_6
                refine join_ (σ := Value) 4 #[true, true, true, true, true, false, false, false, false] (fun s_ => [(16, s_)]) (fun s_ w' => (w'.cell? ⟨gb314, 0, none⟩ = some (.int .i64 a2_0) ∧ w'.cell? ⟨gb314, 1, none⟩ = some (.int .i64 a2_1)) ∧ (Kd.R (Kd.int .i64) 3 w' w.heap.size (fun _ => True) s_ y316) ∧ (w'.heap[gb314]? = some (.cells #[.int .i64 a2_0, .int .i64 a2_1] 36 (0, 0))) ∧ (Below w.heap.size w w')) ?_ ?_
                rotate_left
                ·intro hJ1
                 refine join_ (σ := Unit) 4 #[true, false, true, true, true, true, false, false, false] (fun s_ => [(20, .agg #[.int .i64 t319, .int .i64 t320])]) (fun s_ w' => (w'.cell? ⟨gb314, 0, none⟩ = some (.int .i64 a2_0) ∧ w'.cell? ⟨gb314, 1, none⟩ = some (.int .i64 a2_1)) ∧ (w'.heap[gb314]? = some (.cells #[.int .i64 a2_0, .int .i64 a2_1] 36 (0, 0))) ∧ (Below w.heap.size w w')) ?_ ?_
                 rotate_left
                 ·intro hJ5
                  refine join_ (σ := Nat) 4 #[true, false, true, true, true, false, true, false, false] (fun s_ => [(9, .pointer (some ⟨s_, 0, none⟩))]) (fun s_ w' => (w'.cell? ⟨gb314, 0, none⟩ = some (.int .i64 a2_0) ∧ w'.cell? ⟨gb314, 1, none⟩ = some (.int .i64 a2_1)) ∧ (w'.heap[gb314]? = some (.cells #[.int .i64 a2_0, .int .i64 a2_1] 36 (0, 0))) ∧ (w'.heap[s_]? = some (.cells #[.int .i64 0, .int .i64 0] 36 (0, 0))) ∧ (w.heap.size ≤ s_) ∧ (w.heap.size ≤ s_) ∧ (gb314 ≠ s_) ∧ (s_ ≠ gb314) ∧ (Below w.heap.size w w')) ?_ ?_
                  rotate_left
                  ·intro hJ6
                   refine three_ (i := 1) (j := 5) (k := 6) (Ni := some 16) (Nj := some 20) (Nk := some 9) #[true, true, true, true, true, false, false, false, false] #[true, false, true, true, true, true, false, false, false] #[true, false, true, true, true, false, true, false, false] rfl rfl rfl rfl rfl rfl (three_of HT_.out (by kernel_rfl)) (by decide) (by decide) (by decide) (fun K hK => ?_) (fun K hK => ?_) (fun K hK => ?_)
                   ·skip
                    refine Kd.R_make_step (Kd.int .i64) _ 3 (by rfl) (N := 16) rfl 42 _ _ rfl a0 rfl rfl Try.underlying42 (.int .i64 0) 8 info3 rfl (by decide) (by omega) 0 (ok := fun _ => True) (okp := fun _ => True) rfl (fun _ hk => hk) trivial (odt_) (Nat.le_trans (Nat.mul_le_mul_right _ (odt_ : a0.toNat ≤ 35184372088832)) (by omega)) (Below.refl _ _) (Nat.le_refl _) ?_
                    intro v317 w25 ho26 hb hg_ hnew_
                    clear hg_ hnew_
                    (first | rw [← Ny316.out] at ho26 | (simp only [Int.reduceToNat] at ho26; rw [← Ny316.out] at ho26))
                    have n0_ := Aside0.mk (Kd.R_lower ho26 (below_size (by repeat (first | (with_reducible first | exact HB.out | apply below_alloc | apply pw_below_drewN | apply below_drew1 | refine below_set ?_ GE314.out) | exact HB.out))))
                    have n1_ := Aside0.mk (blk_below (g := gb314) (o := .cells #[.int .i64 a2_0, .int .i64 a2_1] 36 (0, 0)) (bk_ BK314.out) hb)
                    have n2_ := Aside0.mk (below_step (by repeat (first | (with_reducible first | exact HB.out | apply below_alloc | apply pw_below_drewN | apply below_drew1 | refine below_set ?_ GE314.out) | exact HB.out)) hb)
                    clear BK314
                    clear HB
                    have HO318 := n0_
                    have BK314 := n1_
                    have HB := n2_
                    clear n0_ n1_ n2_
                    clear hb ho26
                    refine hK.out _ _ ⟨(blk_cell BK314.out 0).trans rfl, (blk_cell BK314.out 1).trans rfl⟩ (fun hHeld => ?_)
                    clear hK K
                    refine norm_ (a' := ?_) ?_ ?_
                    rotate_left
                    ·show Act.put _ (some 16) _ = _
                     simp only [Act.put, List.setIfInBounds_toArray, List.set_cons_zero, List.set_cons_succ, i64_w, i32_w]
                     rfl
                    exact norm_ (by first | (simp only [putAll, Act.put, List.setIfInBounds_toArray, List.set_cons_zero, List.set_cons_succ]; done) | (simp only [putAll, Act.put, List.setIfInBounds_toArray, List.set_cons_zero, List.set_cons_succ]; rfl)) (hJ1 (v317) _ ⟨hHeld, (ra_ HO318.out), (bk_ BK314.out), (by repeat (first | (with_reducible first | exact HB.out | apply below_alloc | apply pw_below_drewN | apply below_drew1 | refine below_set ?_ GE314.out) | exact HB.out))⟩)
                   ·skip
                    refine goes_ Try.func69 (by kernel_rfl) rfl #[.int .i64 a0, .slice A1 l1.length c1, .agg #[.int .i64 a2_0, .int .i64 a2_1]] (by rfl) rfl rfl amp_ ?_
                    with_reducible refine (impl_otherOf.calls k a0 _ _ l1 a2_0 a2_1 t319 t320 _ ?side1 ?side2 A8.out).mono ?_
                    (case side1 => repeat (first | exact (Kd.C_below HR1.out HB.out) | (with_reducible refine Kd.C_alloc ?_ _) | (with_reducible refine Kd.C_drewN ?_ _) | (with_reducible refine Kd.C_drew ?_)))
                    (case side2 => exact HC1.out)
                    rintro e w25 ⟨rfl, hb⟩
                    refine ⟨_, rfl, ?_⟩
                    have n0_ := Aside0.mk (blk_below (g := gb314) (o := .cells #[.int .i64 a2_0, .int .i64 a2_1] 36 (0, 0)) (bk_ BK314.out) hb)
                    have n1_ := Aside0.mk (below_step (by repeat (first | (with_reducible first | exact HB.out | apply below_alloc | apply pw_below_drewN | apply below_drew1 | refine below_set ?_ GE314.out) | exact HB.out)) hb)
                    clear BK314
                    clear HB
                    have BK314 := n0_
                    have HB := n1_
                    clear n0_ n1_
                    (try clear hb)
                    (try clear hb2)
                    (try clear hk)
                    (try clear hi)
                    refine hK.out _ _ ⟨(blk_cell BK314.out 0).trans rfl, (blk_cell BK314.out 1).trans rfl⟩ (fun hHeld => ?_)
                    clear hK K
                    refine norm_ (a' := ?_) ?_ ?_
                    rotate_left
                    ·show Act.put _ (some 20) _ = _
                     simp only [Act.put, List.setIfInBounds_toArray, List.set_cons_zero, List.set_cons_succ, i64_w, i32_w]
                     rfl
                    exact norm_ (by first | (simp only [putAll, Act.put, List.setIfInBounds_toArray, List.set_cons_zero, List.set_cons_succ]; done) | (simp only [putAll, Act.put, List.setIfInBounds_toArray, List.set_cons_zero, List.set_cons_succ]; rfl)) (hJ5 () _ ⟨hHeld, (bk_ BK314.out), (by repeat (first | (with_reducible first | exact HB.out | apply below_alloc | apply pw_below_drewN | apply below_drew1 | refine below_set ?_ GE314.out) | exact HB.out))⟩)
                   ·skip
                    refine box_step ?hg (N := 9) ?hd (cs := #[.int .i64 0, .int .i64 0]) (t := 36) ?hr ?_; (case hd => rfl); (case hg => rfl); (case hr => first | (go_simp; done) | (go_simp; rfl))
                    intro gb321 hg w25 hbox hb
                    have n0_ := Aside0.mk (blk_below (g := gb314) (o := .cells #[.int .i64 a2_0, .int .i64 a2_1] 36 (0, 0)) (bk_ BK314.out) hb)
                    have n1_ := Aside0.mk (below_step (by repeat (first | (with_reducible first | exact HB.out | apply below_alloc | apply pw_below_drewN | apply below_drew1 | refine below_set ?_ GE314.out) | exact HB.out)) hb)
                    have n2_ := Aside0.mk (hbox)
                    have n3_ := Aside0.mk ((by rw [hg]; exact (below_size (by repeat (first | (with_reducible first | exact HB.out | apply below_alloc | apply pw_below_drewN | apply below_drew1 | refine below_set ?_ GE314.out) | exact HB.out))) : w.heap.size ≤ gb321))
                    have n4_ := Aside0.mk ((by rw [hg]; exact (below_size (by repeat (first | (with_reducible first | exact HB.out | apply below_alloc | apply pw_below_drewN | apply below_drew1 | refine below_set ?_ GE314.out) | exact HB.out))) : w.heap.size ≤ gb321))
                    have n5_ := Aside0.mk ((by rw [hg]; exact Nat.ne_of_lt (blk_lt (g := gb314) (o := .cells #[.int .i64 a2_0, .int .i64 a2_1] 36 (0, 0)) (bk_ BK314.out)) : gb314 ≠ gb321))
                    have n6_ := Aside0.mk ((by rw [hg]; exact Nat.ne_of_gt (blk_lt (g := gb314) (o := .cells #[.int .i64 a2_0, .int .i64 a2_1] 36 (0, 0)) (bk_ BK314.out)) : gb321 ≠ gb314))
                    clear BK314
                    clear HB
                    have BK314 := n0_
                    have HB := n1_
                    have BK321 := n2_
                    have GW321 := n3_
                    have GE321 := n4_
                    have NB314_321 := n5_
                    have NB321_314 := n6_
                    clear n0_ n1_ n2_ n3_ n4_ n5_ n6_
                    clear hb hbox hg
                    refine hK.out _ _ ⟨(blk_cell BK314.out 0).trans rfl, (blk_cell BK314.out 1).trans rfl⟩ (fun hHeld => ?_)
                    clear hK K
                    refine norm_ (a' := ?_) ?_ ?_
                    rotate_left
                    ·show Act.put _ (some 9) _ = _
                     simp only [Act.put, List.setIfInBounds_toArray, List.set_cons_zero, List.set_cons_succ, i64_w, i32_w]
                     rfl
                    exact norm_ (by first | (simp only [putAll, Act.put, List.setIfInBounds_toArray, List.set_cons_zero, List.set_cons_succ]; done) | (simp only [putAll, Act.put, List.setIfInBounds_toArray, List.set_cons_zero, List.set_cons_succ]; rfl)) (hJ6 (gb321) _ ⟨hHeld, (bk_ BK314.out), (bk_ BK321.out), GW321.out, GE321.out, NB314_321.out, NB321_314.out, (by repeat (first | (with_reducible first | exact HB.out | apply below_alloc | apply pw_below_drewN | apply below_drew1 | refine below_set ?_ GE314.out | refine below_set ?_ GE321.out) | exact HB.out))⟩)
                  ·skip
                   rintro gb321 w26 ⟨hS_, h0_, h1_, h2_, h3_, h4_, h5_, h6_⟩
                   have n0_ : Aside0 (w26.heap[gb314]? = some (.cells #[.int .i64 a2_0, .int .i64 a2_1] 36 (0, 0))) := ⟨h0_⟩
                   have n1_ : Aside0 (w26.heap[gb321]? = some (.cells #[.int .i64 0, .int .i64 0] 36 (0, 0))) := ⟨h1_⟩
                   have n2_ : Aside0 (w.heap.size ≤ gb321) := ⟨h2_⟩
                   have n3_ : Aside0 (w.heap.size ≤ gb321) := ⟨h3_⟩
                   have n4_ : Aside0 (gb314 ≠ gb321) := ⟨h4_⟩
                   have n5_ : Aside0 (gb321 ≠ gb314) := ⟨h5_⟩
                   have n6_ : Aside0 (Below w.heap.size w w26) := ⟨h6_⟩
                   clear BK314
                   clear HB
                   clear h0_ h1_ h2_ h3_ h4_ h5_ h6_
                   have BK314 := n0_
                   have BK321 := n1_
                   have GW321 := n2_
                   have GE321 := n3_
                   have NB314_321 := n4_
                   have NB321_314 := n5_
                   have HB := n6_
                   clear n0_ n1_ n2_ n3_ n4_ n5_ n6_
                   have hHeld : w26.cell? ⟨gb314, 0, none⟩ = some (.int .i64 a2_0) ∧ w26.cell? ⟨gb314, 1, none⟩ = some (.int .i64 a2_1) := hS_
                   refine norm_ (a' := ?_) ?_ ?_
                   rotate_left
                   ·simp only [putAll, Act.put, List.setIfInBounds_toArray, List.set_cons_zero, List.set_cons_succ]
                    rfl
                   refine two_ (i := 1) (j := 5) (Ni := some 16) (Nj := some 20) #[true, true, true, true, true, false, true, false, false] #[true, false, true, true, true, true, true, false, false] rfl rfl rfl rfl (two_of HT_.out (by kernel_rfl)) (by decide) (by decide) (fun K hK => ?_) (fun K hK => ?_)
                   ·skip
                    refine Kd.R_make_step (Kd.int .i64) _ 3 (by rfl) (N := 16) rfl 42 _ _ rfl a0 rfl rfl Try.underlying42 (.int .i64 0) 8 info3 rfl (by decide) (by omega) 0 (ok := fun _ => True) (okp := fun _ => True) rfl (fun _ hk => hk) trivial (odt_) (Nat.le_trans (Nat.mul_le_mul_right _ (odt_ : a0.toNat ≤ 35184372088832)) (by omega)) (Below.refl _ _) (Nat.le_refl _) ?_
                    intro v317 w27 ho28 hb hg_ hnew_
                    clear hg_ hnew_
                    (first | rw [← Ny316.out] at ho28 | (simp only [Int.reduceToNat] at ho28; rw [← Ny316.out] at ho28))
                    have n0_ := Aside0.mk (Kd.R_lower ho28 (below_size (by repeat (first | (with_reducible first | exact HB.out | apply below_alloc | apply pw_below_drewN | apply below_drew1 | refine below_set ?_ GE314.out | refine below_set ?_ GE321.out) | exact HB.out))))
                    have n1_ := Aside0.mk (blk_below (g := gb314) (o := .cells #[.int .i64 a2_0, .int .i64 a2_1] 36 (0, 0)) (bk_ BK314.out) hb)
                    have n2_ := Aside0.mk (blk_below (g := gb321) (o := .cells #[.int .i64 0, .int .i64 0] 36 (0, 0)) (bk_ BK321.out) hb)
                    have n3_ := Aside0.mk (below_step (by repeat (first | (with_reducible first | exact HB.out | apply below_alloc | apply pw_below_drewN | apply below_drew1 | refine below_set ?_ GE314.out | refine below_set ?_ GE321.out) | exact HB.out)) hb)
                    clear BK314
                    clear BK321
                    clear HB
                    have HO318 := n0_
                    have BK314 := n1_
                    have BK321 := n2_
                    have HB := n3_
                    clear n0_ n1_ n2_ n3_
                    clear hb ho28
                    refine hK.out _ _ ⟨(blk_cell BK314.out 0).trans rfl, (blk_cell BK314.out 1).trans rfl⟩ (fun hHeld => ?_)
                    clear hK K
                    refine norm_ (a' := ?_) ?_ ?_
                    rotate_left
                    ·show Act.put _ (some 16) _ = _
                     simp only [Act.put, List.setIfInBounds_toArray, List.set_cons_zero, List.set_cons_succ, i64_w, i32_w]
                     rfl
                    exact norm_ (by first | (simp only [putAll, Act.put, List.setIfInBounds_toArray, List.set_cons_zero, List.set_cons_succ]; done) | (simp only [putAll, Act.put, List.setIfInBounds_toArray, List.set_cons_zero, List.set_cons_succ]; rfl)) (hJ1_6 (v317, gb321) _ ⟨hHeld, (ra_ HO318.out), (bk_ BK314.out), (bk_ BK321.out), GW321.out, GE321.out, NB314_321.out, NB321_314.out, (by repeat (first | (with_reducible first | exact HB.out | apply below_alloc | apply pw_below_drewN | apply below_drew1 | refine below_set ?_ GE314.out | refine below_set ?_ GE321.out) | exact HB.out))⟩)
                   ·skip
                    refine goes_ Try.func69 (by kernel_rfl) rfl #[.int .i64 a0, .slice A1 l1.length c1, .agg #[.int .i64 a2_0, .int .i64 a2_1]] (by rfl) rfl rfl amp_ ?_
                    with_reducible refine (impl_otherOf.calls k a0 _ _ l1 a2_0 a2_1 t319 t320 _ ?side1 ?side2 A8.out).mono ?_
                    (case side1 => repeat (first | exact (Kd.C_below HR1.out HB.out) | (with_reducible refine Kd.C_alloc ?_ _) | (with_reducible refine Kd.C_drewN ?_ _) | (with_reducible refine Kd.C_drew ?_)))
                    (case side2 => exact HC1.out)
                    rintro e w27 ⟨rfl, hb⟩
                    refine ⟨_, rfl, ?_⟩
                    have n0_ := Aside0.mk (blk_below (g := gb314) (o := .cells #[.int .i64 a2_0, .int .i64 a2_1] 36 (0, 0)) (bk_ BK314.out) hb)
                    have n1_ := Aside0.mk (blk_below (g := gb321) (o := .cells #[.int .i64 0, .int .i64 0] 36 (0, 0)) (bk_ BK321.out) hb)
                    have n2_ := Aside0.mk (below_step (by repeat (first | (with_reducible first | exact HB.out | apply below_alloc | apply pw_below_drewN | apply below_drew1 | refine below_set ?_ GE314.out | refine below_set ?_ GE321.out) | exact HB.out)) hb)
                    clear BK314
                    clear BK321
                    clear HB
                    have BK314 := n0_
                    have BK321 := n1_
                    have HB := n2_
                    clear n0_ n1_ n2_
                    (try clear hb)
                    (try clear hb2)
                    (try clear hk)
                    (try clear hi)
                    refine hK.out _ _ ⟨(blk_cell BK314.out 0).trans rfl, (blk_cell BK314.out 1).trans rfl⟩ (fun hHeld => ?_)
                    clear hK K
                    refine norm_ (a' := ?_) ?_ ?_
                    rotate_left
                    ·show Act.put _ (some 20) _ = _
                     simp only [Act.put, List.setIfInBounds_toArray, List.set_cons_zero, List.set_cons_succ, i64_w, i32_w]
                     rfl
                    exact norm_ (by first | (simp only [putAll, Act.put, List.setIfInBounds_toArray, List.set_cons_zero, List.set_cons_succ]; done) | (simp only [putAll, Act.put, List.setIfInBounds_toArray, List.set_cons_zero, List.set_cons_succ]; rfl)) (hJ5_6 (gb321) _ ⟨hHeld, (bk_ BK314.out), (bk_ BK321.out), GW321.out, GE321.out, NB314_321.out, NB321_314.out, (by repeat (first | (with_reducible first | exact HB.out | apply below_alloc | apply pw_below_drewN | apply below_drew1 | refine below_set ?_ GE314.out | refine below_set ?_ GE321.out) | exact HB.out))⟩)
                 ·skip
                  rintro _ w26 ⟨hS_, h0_, h1_⟩
                  have n0_ : Aside0 (w26.heap[gb314]? = some (.cells #[.int .i64 a2_0, .int .i64 a2_1] 36 (0, 0))) := ⟨h0_⟩
                  have n1_ : Aside0 (Below w.heap.size w w26) := ⟨h1_⟩
                  clear BK314
                  clear HB
                  clear h0_ h1_
                  have BK314 := n0_
                  have HB := n1_
                  clear n0_ n1_
                  have hHeld : w26.cell? ⟨gb314, 0, none⟩ = some (.int .i64 a2_0) ∧ w26.cell? ⟨gb314, 1, none⟩ = some (.int .i64 a2_1) := hS_
                  refine norm_ (a' := ?_) ?_ ?_
                  rotate_left
                  ·simp only [putAll, Act.put, List.setIfInBounds_toArray, List.set_cons_zero, List.set_cons_succ]
                   rfl
                  refine two_ (i := 1) (j := 6) (Ni := some 16) (Nj := some 9) #[true, true, true, true, true, true, false, false, false] #[true, false, true, true, true, true, true, false, false] rfl rfl rfl rfl (two_of HT_.out (by kernel_rfl)) (by decide) (by decide) (fun K hK => ?_) (fun K hK => ?_)
                  ·skip
                   refine Kd.R_make_step (Kd.int .i64) _ 3 (by rfl) (N := 16) rfl 42 _ _ rfl a0 rfl rfl Try.underlying42 (.int .i64 0) 8 info3 rfl (by decide) (by omega) 0 (ok := fun _ => True) (okp := fun _ => True) rfl (fun _ hk => hk) trivial (odt_) (Nat.le_trans (Nat.mul_le_mul_right _ (odt_ : a0.toNat ≤ 35184372088832)) (by omega)) (Below.refl _ _) (Nat.le_refl _) ?_
                   intro v317 w27 ho28 hb hg_ hnew_
                   clear hg_ hnew_
                   (first | rw [← Ny316.out] at ho28 | (simp only [Int.reduceToNat] at ho28; rw [← Ny316.out] at ho28))
                   have n0_ := Aside0.mk (Kd.R_lower ho28 (below_size (by repeat (first | (with_reducible first | exact HB.out | apply below_alloc | apply pw_below_drewN | apply below_drew1 | refine below_set ?_ GE314.out) | exact HB.out))))
                   have n1_ := Aside0.mk (blk_below (g := gb314) (o := .cells #[.int .i64 a2_0, .int .i64 a2_1] 36 (0, 0)) (bk_ BK314.out) hb)
                   have n2_ := Aside0.mk (below_step (by repeat (first | (with_reducible first | exact HB.out | apply below_alloc | apply pw_below_drewN | apply below_drew1 | refine below_set ?_ GE314.out) | exact HB.out)) hb)
                   clear BK314
                   clear HB
                   have HO318 := n0_
                   have BK314 := n1_
                   have HB := n2_
                   clear n0_ n1_ n2_
                   clear hb ho28
                   refine hK.out _ _ ⟨(blk_cell BK314.out 0).trans rfl, (blk_cell BK314.out 1).trans rfl⟩ (fun hHeld => ?_)
                   clear hK K
                   refine norm_ (a' := ?_) ?_ ?_
                   rotate_left
                   ·show Act.put _ (some 16) _ = _
                    simp only [Act.put, List.setIfInBounds_toArray, List.set_cons_zero, List.set_cons_succ, i64_w, i32_w]
                    rfl
                   exact norm_ (by first | (simp only [putAll, Act.put, List.setIfInBounds_toArray, List.set_cons_zero, List.set_cons_succ]; done) | (simp only [putAll, Act.put, List.setIfInBounds_toArray, List.set_cons_zero, List.set_cons_succ]; rfl)) (hJ1_5 (v317) _ ⟨hHeld, (ra_ HO318.out), (bk_ BK314.out), (by repeat (first | (with_reducible first | exact HB.out | apply below_alloc | apply pw_below_drewN | apply below_drew1 | refine below_set ?_ GE314.out) | exact HB.out))⟩)
                  ·skip
                   refine box_step ?hg (N := 9) ?hd (cs := #[.int .i64 0, .int .i64 0]) (t := 36) ?hr ?_; (case hd => rfl); (case hg => rfl); (case hr => first | (go_simp; done) | (go_simp; rfl))
                   intro gb321 hg w27 hbox hb
                   have n0_ := Aside0.mk (blk_below (g := gb314) (o := .cells #[.int .i64 a2_0, .int .i64 a2_1] 36 (0, 0)) (bk_ BK314.out) hb)
                   have n1_ := Aside0.mk (below_step (by repeat (first | (with_reducible first | exact HB.out | apply below_alloc | apply pw_below_drewN | apply below_drew1 | refine below_set ?_ GE314.out) | exact HB.out)) hb)
                   have n2_ := Aside0.mk (hbox)
                   have n3_ := Aside0.mk ((by rw [hg]; exact (below_size (by repeat (first | (with_reducible first | exact HB.out | apply below_alloc | apply pw_below_drewN | apply below_drew1 | refine below_set ?_ GE314.out) | exact HB.out))) : w.heap.size ≤ gb321))
                   have n4_ := Aside0.mk ((by rw [hg]; exact (below_size (by repeat (first | (with_reducible first | exact HB.out | apply below_alloc | apply pw_below_drewN | apply below_drew1 | refine below_set ?_ GE314.out) | exact HB.out))) : w.heap.size ≤ gb321))
                   have n5_ := Aside0.mk ((by rw [hg]; exact Nat.ne_of_lt (blk_lt (g := gb314) (o := .cells #[.int .i64 a2_0, .int .i64 a2_1] 36 (0, 0)) (bk_ BK314.out)) : gb314 ≠ gb321))
                   have n6_ := Aside0.mk ((by rw [hg]; exact Nat.ne_of_gt (blk_lt (g := gb314) (o := .cells #[.int .i64 a2_0, .int .i64 a2_1] 36 (0, 0)) (bk_ BK314.out)) : gb321 ≠ gb314))
                   clear BK314
                   clear HB
                   have BK314 := n0_
                   have HB := n1_
                   have BK321 := n2_
                   have GW321 := n3_
                   have GE321 := n4_
                   have NB314_321 := n5_
                   have NB321_314 := n6_
                   clear n0_ n1_ n2_ n3_ n4_ n5_ n6_
                   clear hb hbox hg
                   refine hK.out _ _ ⟨(blk_cell BK314.out 0).trans rfl, (blk_cell BK314.out 1).trans rfl⟩ (fun hHeld => ?_)
                   clear hK K
                   refine norm_ (a' := ?_) ?_ ?_
                   rotate_left
                   ·show Act.put _ (some 9) _ = _
                    simp only [Act.put, List.setIfInBounds_toArray, List.set_cons_zero, List.set_cons_succ, i64_w, i32_w]
                    rfl
                   exact norm_ (by first | (simp only [putAll, Act.put, List.setIfInBounds_toArray, List.set_cons_zero, List.set_cons_succ]; done) | (simp only [putAll, Act.put, List.setIfInBounds_toArray, List.set_cons_zero, List.set_cons_succ]; rfl)) (hJ5_6 (gb321) _ ⟨hHeld, (bk_ BK314.out), (bk_ BK321.out), GW321.out, GE321.out, NB314_321.out, NB321_314.out, (by repeat (first | (with_reducible first | exact HB.out | apply below_alloc | apply pw_below_drewN | apply below_drew1 | refine below_set ?_ GE314.out | refine below_set ?_ GE321.out) | exact HB.out))⟩)
                ·skip
                 rintro v317 w27 ⟨hS_, h0_, h1_, h2_⟩
                 have n0_ : Aside0 (Kd.R (Kd.int .i64) 3 w27 w.heap.size (fun _ => True) v317 y316) := ⟨h0_⟩
                 have n1_ : Aside0 (w27.heap[gb314]? = some (.cells #[.int .i64 a2_0, .int .i64 a2_1] 36 (0, 0))) := ⟨h1_⟩
                 have n2_ : Aside0 (Below w.heap.size w w27) := ⟨h2_⟩
                 clear BK314
                 clear HB
                 clear h0_ h1_ h2_
                 have HO318 := n0_
                 have BK314 := n1_
                 have HB := n2_
                 clear n0_ n1_ n2_
                 have hHeld : w27.cell? ⟨gb314, 0, none⟩ = some (.int .i64 a2_0) ∧ w27.cell? ⟨gb314, 1, none⟩ = some (.int .i64 a2_1) := hS_
                 refine norm_ (a' := ?_) ?_ ?_
                 rotate_left
                 ·simp only [putAll, Act.put, List.setIfInBounds_toArray, List.set_cons_zero, List.set_cons_succ]
                  rfl
                 refine two_ (i := 5) (j := 6) (Ni := some 20) (Nj := some 9) #[true, true, true, true, true, true, false, false, false] #[true, true, true, true, true, false, true, false, false] rfl rfl rfl rfl (two_of HT_.out (by kernel_rfl)) (by decide) (by decide) (fun K hK => ?_) (fun K hK => ?_)
                 ·skip
                  refine goes_ Try.func69 (by kernel_rfl) rfl #[.int .i64 a0, .slice A1 l1.length c1, .agg #[.int .i64 a2_0, .int .i64 a2_1]] (by rfl) rfl rfl amp_ ?_
                  with_reducible refine (impl_otherOf.calls k a0 _ _ l1 a2_0 a2_1 t319 t320 _ ?side1 ?side2 A8.out).mono ?_
                  (case side1 => repeat (first | exact (Kd.C_below HR1.out HB.out) | (with_reducible refine Kd.C_alloc ?_ _) | (with_reducible refine Kd.C_drewN ?_ _) | (with_reducible refine Kd.C_drew ?_)))
                  (case side2 => exact HC1.out)
                  rintro e w28 ⟨rfl, hb⟩
                  refine ⟨_, rfl, ?_⟩
                  have n0_ := Aside0.mk (Kd.R_below (ra_ HO318.out) hb)
                  have n1_ := Aside0.mk (blk_below (g := gb314) (o := .cells #[.int .i64 a2_0, .int .i64 a2_1] 36 (0, 0)) (bk_ BK314.out) hb)
                  have n2_ := Aside0.mk (below_step (by repeat (first | (with_reducible first | exact HB.out | apply below_alloc | apply pw_below_drewN | apply below_drew1 | refine below_set ?_ GE314.out) | exact HB.out)) hb)
                  clear HO318
                  clear BK314
                  clear HB
                  have HO318 := n0_
                  have BK314 := n1_
                  have HB := n2_
                  clear n0_ n1_ n2_
                  (try clear hb)
                  (try clear hb2)
                  (try clear hk)
                  (try clear hi)
                  refine hK.out _ _ ⟨(blk_cell BK314.out 0).trans rfl, (blk_cell BK314.out 1).trans rfl⟩ (fun hHeld => ?_)
                  clear hK K
                  refine norm_ (a' := ?_) ?_ ?_
                  rotate_left
                  ·show Act.put _ (some 20) _ = _
                   simp only [Act.put, List.setIfInBounds_toArray, List.set_cons_zero, List.set_cons_succ, i64_w, i32_w]
                   rfl
                  exact norm_ (by first | (simp only [putAll, Act.put, List.setIfInBounds_toArray, List.set_cons_zero, List.set_cons_succ]; done) | (simp only [putAll, Act.put, List.setIfInBounds_toArray, List.set_cons_zero, List.set_cons_succ]; rfl)) (hJ1_5 (v317) _ ⟨hHeld, (ra_ HO318.out), (bk_ BK314.out), (by repeat (first | (with_reducible first | exact HB.out | apply below_alloc | apply pw_below_drewN | apply below_drew1 | refine below_set ?_ GE314.out) | exact HB.out))⟩)
                 ·skip
                  refine box_step ?hg (N := 9) ?hd (cs := #[.int .i64 0, .int .i64 0]) (t := 36) ?hr ?_; (case hd => rfl); (case hg => rfl); (case hr => first | (go_simp; done) | (go_simp; rfl))
                  intro gb321 hg w28 hbox hb
                  have n0_ := Aside0.mk (Kd.R_below (ra_ HO318.out) hb)
                  have n1_ := Aside0.mk (blk_below (g := gb314) (o := .cells #[.int .i64 a2_0, .int .i64 a2_1] 36 (0, 0)) (bk_ BK314.out) hb)
                  have n2_ := Aside0.mk (below_step (by repeat (first | (with_reducible first | exact HB.out | apply below_alloc | apply pw_below_drewN | apply below_drew1 | refine below_set ?_ GE314.out) | exact HB.out)) hb)
                  have n3_ := Aside0.mk (hbox)
                  have n4_ := Aside0.mk ((by rw [hg]; exact (below_size (by repeat (first | (with_reducible first | exact HB.out | apply below_alloc | apply pw_below_drewN | apply below_drew1 | refine below_set ?_ GE314.out) | exact HB.out))) : w.heap.size ≤ gb321))
                  have n5_ := Aside0.mk ((by rw [hg]; exact (below_size (by repeat (first | (with_reducible first | exact HB.out | apply below_alloc | apply pw_below_drewN | apply below_drew1 | refine below_set ?_ GE314.out) | exact HB.out))) : w.heap.size ≤ gb321))
                  have n6_ := Aside0.mk ((by rw [hg]; exact Nat.ne_of_lt (blk_lt (g := gb314) (o := .cells #[.int .i64 a2_0, .int .i64 a2_1] 36 (0, 0)) (bk_ BK314.out)) : gb314 ≠ gb321))
                  have n7_ := Aside0.mk ((by rw [hg]; exact Nat.ne_of_gt (blk_lt (g := gb314) (o := .cells #[.int .i64 a2_0, .int .i64 a2_1] 36 (0, 0)) (bk_ BK314.out)) : gb321 ≠ gb314))
                  clear HO318
                  clear BK314
                  clear HB
                  have HO318 := n0_
                  have BK314 := n1_
                  have HB := n2_
                  have BK321 := n3_
                  have GW321 := n4_
                  have GE321 := n5_
                  have NB314_321 := n6_
                  have NB321_314 := n7_
                  clear n0_ n1_ n2_ n3_ n4_ n5_ n6_ n7_
                  clear hb hbox hg
                  refine hK.out _ _ ⟨(blk_cell BK314.out 0).trans rfl, (blk_cell BK314.out 1).trans rfl⟩ (fun hHeld => ?_)
                  clear hK K
                  refine norm_ (a' := ?_) ?_ ?_
                  rotate_left
                  ·show Act.put _ (some 9) _ = _
                   simp only [Act.put, List.setIfInBounds_toArray, List.set_cons_zero, List.set_cons_succ, i64_w, i32_w]
                   rfl
                  exact norm_ (by first | (simp only [putAll, Act.put, List.setIfInBounds_toArray, List.set_cons_zero, List.set_cons_succ]; done) | (simp only [putAll, Act.put, List.setIfInBounds_toArray, List.set_cons_zero, List.set_cons_succ]; rfl)) (hJ1_6 (v317, gb321) _ ⟨hHeld, (ra_ HO318.out), (bk_ BK314.out), (bk_ BK321.out), GW321.out, GE321.out, NB314_321.out, NB321_314.out, (by repeat (first | (with_reducible first | exact HB.out | apply below_alloc | apply pw_below_drewN | apply below_drew1 | refine below_set ?_ GE314.out | refine below_set ?_ GE321.out) | exact HB.out))⟩)
               ·skip
                rintro gb321 w27 ⟨hS_, h0_, h1_, h2_, h3_, h4_, h5_, h6_⟩
                have n0_ : Aside0 (w27.heap[gb314]? = some (.cells #[.int .i64 a2_0, .int .i64 a2_1] 36 (0, 0))) := ⟨h0_⟩
                have n1_ : Aside0 (w27.heap[gb321]? = some (.cells #[.int .i64 0, .int .i64 0] 36 (0, 0))) := ⟨h1_⟩
                have n2_ : Aside0 (w.heap.size ≤ gb321) := ⟨h2_⟩
                have n3_ : Aside0 (w.heap.size ≤ gb321) := ⟨h3_⟩
                have n4_ : Aside0 (gb314 ≠ gb321) := ⟨h4_⟩
                have n5_ : Aside0 (gb321 ≠ gb314) := ⟨h5_⟩
                have n6_ : Aside0 (Below w.heap.size w w27) := ⟨h6_⟩
                clear BK314
                clear HB
                clear h0_ h1_ h2_ h3_ h4_ h5_ h6_
                have BK314 := n0_
                have BK321 := n1_
                have GW321 := n2_
                have GE321 := n3_
                have NB314_321 := n4_
                have NB321_314 := n5_
                have HB := n6_
                clear n0_ n1_ n2_ n3_ n4_ n5_ n6_
                have hHeld : w27.cell? ⟨gb314, 0, none⟩ = some (.int .i64 a2_0) ∧ w27.cell? ⟨gb314, 1, none⟩ = some (.int .i64 a2_1) := hS_
                refine norm_ (a' := ?_) ?_ ?_
                rotate_left
                ·simp only [putAll, Act.put, List.setIfInBounds_toArray, List.set_cons_zero, List.set_cons_succ]
                 rfl
                refine one_ (i := 1) (N := some 16) #[true, true, true, true, true, true, true, false, false] rfl rfl (one_of HT_.out (by kernel_rfl)) (by decide) (fun K hK => ?_)
                refine Kd.R_make_step (Kd.int .i64) _ 3 (by rfl) (N := 16) rfl 42 _ _ rfl a0 rfl rfl Try.underlying42 (.int .i64 0) 8 info3 rfl (by decide) (by omega) 0 (ok := fun _ => True) (okp := fun _ => True) rfl (fun _ hk => hk) trivial (odt_) (Nat.le_trans (Nat.mul_le_mul_right _ (odt_ : a0.toNat ≤ 35184372088832)) (by omega)) (Below.refl _ _) (Nat.le_refl _) ?_
                intro v317 w28 ho29 hb hg_ hnew_
                clear hg_ hnew_
                (first | rw [← Ny316.out] at ho29 | (simp only [Int.reduceToNat] at ho29; rw [← Ny316.out] at ho29))
                have n0_ := Aside0.mk (Kd.R_lower ho29 (below_size (by repeat (first | (with_reducible first | exact HB.out | apply below_alloc | apply pw_below_drewN | apply below_drew1 | refine below_set ?_ GE314.out | refine below_set ?_ GE321.out) | exact HB.out))))
                have n1_ := Aside0.mk (blk_below (g := gb314) (o := .cells #[.int .i64 a2_0, .int .i64 a2_1] 36 (0, 0)) (bk_ BK314.out) hb)
                have n2_ := Aside0.mk (blk_below (g := gb321) (o := .cells #[.int .i64 0, .int .i64 0] 36 (0, 0)) (bk_ BK321.out) hb)
                have n3_ := Aside0.mk (below_step (by repeat (first | (with_reducible first | exact HB.out | apply below_alloc | apply pw_below_drewN | apply below_drew1 | refine below_set ?_ GE314.out | refine below_set ?_ GE321.out) | exact HB.out)) hb)
                clear BK314
                clear BK321
                clear HB
                have HO318 := n0_
                have BK314 := n1_
                have BK321 := n2_
                have HB := n3_
                clear n0_ n1_ n2_ n3_
                clear hb ho29
                refine hK.out _ _ ⟨(blk_cell BK314.out 0).trans rfl, (blk_cell BK314.out 1).trans rfl⟩ (fun hHeld => ?_)
                clear hK K
                refine norm_ (a' := ?_) ?_ ?_
                rotate_left
                ·show Act.put _ (some 16) _ = _
                 simp only [Act.put, List.setIfInBounds_toArray, List.set_cons_zero, List.set_cons_succ, i64_w, i32_w]
                 rfl
                exact norm_ (by first | (simp only [putAll, Act.put, List.setIfInBounds_toArray, List.set_cons_zero, List.set_cons_succ]; done) | (simp only [putAll, Act.put, List.setIfInBounds_toArray, List.set_cons_zero, List.set_cons_succ]; rfl)) (hJ1_5_6 (v317, gb321) _ ⟨hHeld, (ra_ HO318.out), (bk_ BK314.out), (bk_ BK321.out), GW321.out, GE321.out, NB314_321.out, NB321_314.out, (by repeat (first | (with_reducible first | exact HB.out | apply below_alloc | apply pw_below_drewN | apply below_drew1 | refine below_set ?_ GE314.out | refine below_set ?_ GE321.out) | exact HB.out))⟩)
              ·skip
               rintro ⟨v317, gb321⟩ w28 ⟨hS_, h0_, h1_, h2_, h3_, h4_, h5_, h6_, h7_⟩
               have n0_ : Aside0 (Kd.R (Kd.int .i64) 3 w28 w.heap.size (fun _ => True) v317 y316) := ⟨h0_⟩
               have n1_ : Aside0 (w28.heap[gb314]? = some (.cells #[.int .i64 a2_0, .int .i64 a2_1] 36 (0, 0))) := ⟨h1_⟩
               have n2_ : Aside0 (w28.heap[gb321]? = some (.cells #[.int .i64 0, .int .i64 0] 36 (0, 0))) := ⟨h2_⟩
               have n3_ : Aside0 (w.heap.size ≤ gb321) := ⟨h3_⟩
               have n4_ : Aside0 (w.heap.size ≤ gb321) := ⟨h4_⟩
               have n5_ : Aside0 (gb314 ≠ gb321) := ⟨h5_⟩
               have n6_ : Aside0 (gb321 ≠ gb314) := ⟨h6_⟩
               have n7_ : Aside0 (Below w.heap.size w w28) := ⟨h7_⟩
               clear BK314
               clear HB
               clear h0_ h1_ h2_ h3_ h4_ h5_ h6_ h7_
               have HO318 := n0_
               have BK314 := n1_
               have BK321 := n2_
               have GW321 := n3_
               have GE321 := n4_
               have NB314_321 := n5_
               have NB321_314 := n6_
               have HB := n7_
               clear n0_ n1_ n2_ n3_ n4_ n5_ n6_ n7_
               have hHeld : w28.cell? ⟨gb314, 0, none⟩ = some (.int .i64 a2_0) ∧ w28.cell? ⟨gb314, 1, none⟩ = some (.int .i64 a2_1) := hS_
               refine norm_ (a' := ?_) ?_ ?_
               rotate_left
               ·simp only [putAll, Act.put, List.setIfInBounds_toArray, List.set_cons_zero, List.set_cons_succ]
                rfl
               refine one_ (i := 5) (N := some 20) #[true, true, true, true, true, true, true, false, false] rfl rfl (one_of HT_.out (by kernel_rfl)) (by decide) (fun K hK => ?_)
               refine goes_ Try.func69 (by kernel_rfl) rfl #[.int .i64 a0, .slice A1 l1.length c1, .agg #[.int .i64 a2_0, .int .i64 a2_1]] (by rfl) rfl rfl amp_ ?_
               with_reducible refine (impl_otherOf.calls k a0 _ _ l1 a2_0 a2_1 t319 t320 _ ?side1 ?side2 A8.out).mono ?_
               (case side1 => repeat (first | exact (Kd.C_below HR1.out HB.out) | (with_reducible refine Kd.C_alloc ?_ _) | (with_reducible refine Kd.C_drewN ?_ _) | (with_reducible refine Kd.C_drew ?_)))
               (case side2 => exact HC1.out)
               rintro e w29 ⟨rfl, hb⟩
               refine ⟨_, rfl, ?_⟩
               have n0_ := Aside0.mk (Kd.R_below (ra_ HO318.out) hb)
               have n1_ := Aside0.mk (blk_below (g := gb314) (o := .cells #[.int .i64 a2_0, .int .i64 a2_1] 36 (0, 0)) (bk_ BK314.out) hb)
               have n2_ := Aside0.mk (blk_below (g := gb321) (o := .cells #[.int .i64 0, .int .i64 0] 36 (0, 0)) (bk_ BK321.out) hb)
               have n3_ := Aside0.mk (below_step (by repeat (first | (with_reducible first | exact HB.out | apply below_alloc | apply pw_below_drewN | apply below_drew1 | refine below_set ?_ GE314.out | refine below_set ?_ GE321.out) | exact HB.out)) hb)
               clear HO318
               clear BK314
               clear BK321
               clear HB
               have HO318 := n0_
               have BK314 := n1_
               have BK321 := n2_
               have HB := n3_
               clear n0_ n1_ n2_ n3_
               (try clear hb)
               (try clear hb2)
               (try clear hk)
               (try clear hi)
               refine hK.out _ _ ⟨(blk_cell BK314.out 0).trans rfl, (blk_cell BK314.out 1).trans rfl⟩ (fun hHeld => ?_)
               clear hK K
               refine norm_ (a' := ?_) ?_ ?_
               rotate_left
               ·show Act.put _ (some 20) _ = _
                simp only [Act.put, List.setIfInBounds_toArray, List.set_cons_zero, List.set_cons_succ, i64_w, i32_w]
                rfl
               exact norm_ (by first | (simp only [putAll, Act.put, List.setIfInBounds_toArray, List.set_cons_zero, List.set_cons_succ]; done) | (simp only [putAll, Act.put, List.setIfInBounds_toArray, List.set_cons_zero, List.set_cons_succ]; rfl)) (hJ1_5_6 (v317, gb321) _ ⟨hHeld, (ra_ HO318.out), (bk_ BK314.out), (bk_ BK321.out), GW321.out, GE321.out, NB314_321.out, NB321_314.out, (by repeat (first | (with_reducible first | exact HB.out | apply below_alloc | apply pw_below_drewN | apply below_drew1 | refine below_set ?_ GE314.out | refine below_set ?_ GE321.out) | exact HB.out))⟩)
             ·skip
              rintro v317 w28 ⟨hS_, h0_, h1_, h2_⟩
              have n0_ : Aside0 (Kd.R (Kd.int .i64) 3 w28 w.heap.size (fun _ => True) v317 y316) := ⟨h0_⟩
              have n1_ : Aside0 (w28.heap[gb314]? = some (.cells #[.int .i64 a2_0, .int .i64 a2_1] 36 (0, 0))) := ⟨h1_⟩
              have n2_ : Aside0 (Below w.heap.size w w28) := ⟨h2_⟩
              clear BK314
              clear HB
              clear h0_ h1_ h2_
              have HO318 := n0_
              have BK314 := n1_
              have HB := n2_
              clear n0_ n1_ n2_
              have hHeld : w28.cell? ⟨gb314, 0, none⟩ = some (.int .i64 a2_0) ∧ w28.cell? ⟨gb314, 1, none⟩ = some (.int .i64 a2_1) := hS_
              refine norm_ (a' := ?_) ?_ ?_
              rotate_left
              ·simp only [putAll, Act.put, List.setIfInBounds_toArray, List.set_cons_zero, List.set_cons_succ]
               rfl
              refine one_ (i := 6) (N := some 9) #[true, true, true, true, true, true, true, false, false] rfl rfl (one_of HT_.out (by kernel_rfl)) (by decide) (fun K hK => ?_)
              refine box_step ?hg (N := 9) ?hd (cs := #[.int .i64 0, .int .i64 0]) (t := 36) ?hr ?_; (case hd => rfl); (case hg => rfl); (case hr => first | (go_simp; done) | (go_simp; rfl))
              intro gb321 hg w29 hbox hb
              have n0_ := Aside0.mk (Kd.R_below (ra_ HO318.out) hb)
              have n1_ := Aside0.mk (blk_below (g := gb314) (o := .cells #[.int .i64 a2_0, .int .i64 a2_1] 36 (0, 0)) (bk_ BK314.out) hb)
              have n2_ := Aside0.mk (below_step (by repeat (first | (with_reducible first | exact HB.out | apply below_alloc | apply pw_below_drewN | apply below_drew1 | refine below_set ?_ GE314.out) | exact HB.out)) hb)
              have n3_ := Aside0.mk (hbox)
              have n4_ := Aside0.mk ((by rw [hg]; exact (below_size (by repeat (first | (with_reducible first | exact HB.out | apply below_alloc | apply pw_below_drewN | apply below_drew1 | refine below_set ?_ GE314.out) | exact HB.out))) : w.heap.size ≤ gb321))
              have n5_ := Aside0.mk ((by rw [hg]; exact (below_size (by repeat (first | (with_reducible first | exact HB.out | apply below_alloc | apply pw_below_drewN | apply below_drew1 | refine below_set ?_ GE314.out) | exact HB.out))) : w.heap.size ≤ gb321))
              have n6_ := Aside0.mk ((by rw [hg]; exact Nat.ne_of_lt (blk_lt (g := gb314) (o := .cells #[.int .i64 a2_0, .int .i64 a2_1] 36 (0, 0)) (bk_ BK314.out)) : gb314 ≠ gb321))
              have n7_ := Aside0.mk ((by rw [hg]; exact Nat.ne_of_gt (blk_lt (g := gb314) (o := .cells #[.int .i64 a2_0, .int .i64 a2_1] 36 (0, 0)) (bk_ BK314.out)) : gb321 ≠ gb314))
              clear HO318
              clear BK314
              clear HB
              have HO318 := n0_
              have BK314 := n1_
              have HB := n2_
              have BK321 := n3_
              have GW321 := n4_
              have GE321 := n5_
              have NB314_321 := n6_
              have NB321_314 := n7_
              clear n0_ n1_ n2_ n3_ n4_ n5_ n6_ n7_
              clear hb hbox hg
              refine hK.out _ _ ⟨(blk_cell BK314.out 0).trans rfl, (blk_cell BK314.out 1).trans rfl⟩ (fun hHeld => ?_)
              clear hK K
              refine norm_ (a' := ?_) ?_ ?_
              rotate_left
              ·show Act.put _ (some 9) _ = _
               simp only [Act.put, List.setIfInBounds_toArray, List.set_cons_zero, List.set_cons_succ, i64_w, i32_w]
               rfl
              exact norm_ (by first | (simp only [putAll, Act.put, List.setIfInBounds_toArray, List.set_cons_zero, List.set_cons_succ]; done) | (simp only [putAll, Act.put, List.setIfInBounds_toArray, List.set_cons_zero, List.set_cons_succ]; rfl)) (hJ1_5_6 (v317, gb321) _ ⟨hHeld, (ra_ HO318.out), (bk_ BK314.out), (bk_ BK321.out), GW321.out, GE321.out, NB314_321.out, NB321_314.out, (by repeat (first | (with_reducible first | exact HB.out | apply below_alloc | apply pw_below_drewN | apply below_drew1 | refine below_set ?_ GE314.out | refine below_set ?_ GE321.out) | exact HB.out))⟩)
            rintro ⟨v317, gb321⟩ w29 ⟨hS_, h0_, h1_, h2_, h3_, h4_, h5_, h6_, h7_⟩
            have n0_ : Aside0 (Kd.R (Kd.int .i64) 3 w29 w.heap.size (fun _ => True) v317 y316) := ⟨h0_⟩
            have n1_ : Aside0 (w29.heap[gb314]? = some (.cells #[.int .i64 a2_0, .int .i64 a2_1] 36 (0, 0))) := ⟨h1_⟩
            have n2_ : Aside0 (w29.heap[gb321]? = some (.cells #[.int .i64 0, .int .i64 0] 36 (0, 0))) := ⟨h2_⟩
            have n3_ : Aside0 (w.heap.size ≤ gb321) := ⟨h3_⟩
            have n4_ : Aside0 (w.heap.size ≤ gb321) := ⟨h4_⟩
            have n5_ : Aside0 (gb314 ≠ gb321) := ⟨h5_⟩
            have n6_ : Aside0 (gb321 ≠ gb314) := ⟨h6_⟩
            have n7_ : Aside0 (Below w.heap.size w w29) := ⟨h7_⟩
            clear BK314
            clear HB
            clear h0_ h1_ h2_ h3_ h4_ h5_ h6_ h7_
            have HO318 := n0_
            have BK314 := n1_
            have BK321 := n2_
            have GW321 := n3_
            have GE321 := n4_
            have NB314_321 := n5_
            have NB321_314 := n6_
            have HB := n7_
            clear n0_ n1_ n2_ n3_ n4_ n5_ n6_ n7_
            have hHeld : w29.cell? ⟨gb314, 0, none⟩ = some (.int .i64 a2_0) ∧ w29.cell? ⟨gb314, 1, none⟩ = some (.int .i64 a2_1) := hS_
            refine norm_ (a' := ?_) ?_ ?_
            rotate_left
            ·simp only [putAll, Act.put, List.setIfInBounds_toArray, List.set_cons_zero, List.set_cons_succ]
             rfl
            refine pure_ (i := 7) (N := some 8) (v := ?_) (a' := ?_) #[true, true, true, true, true, true, true, true, false] rfl rfl (any_of HT_.out (by kernel_rfl)) (fun _ _ _ h => h) (Or.inl ⟨by rfl, ?_⟩) ?_ ?_
            rotate_left
            ·intro w'
             go_simp
             with_reducible rfl
            rotate_left
            ·simp only [Act.put, List.setIfInBounds_toArray, List.set_cons_zero, List.set_cons_succ, i64_w, i32_w]
             rfl
            refine one_ (i := 8) (N := none) #[true, true, true, true, true, true, true, true, true] rfl rfl (one_of HT_.out (by kernel_rfl)) (by decide) (fun K hK => ?_)
            have hs30 : w29.cell? ⟨gb321, 0, none⟩ = some (.int .i64 0) := (blk_cell BK321.out 0).trans rfl
            have hfs30 := blk_frozen BK321.out 0
            have hns30_0 := NB314_321.out
            have hms30_0 := NB321_314.out
            have hs31 : w29.cell? ⟨gb321, 1, none⟩ = some (.int .i64 0) := (blk_cell BK321.out 1).trans rfl
            have hfs31 := blk_frozen BK321.out 1
            have hns31_0 := NB314_321.out
            have hms31_0 := NB321_314.out
            refine skip_ (w1 := ?_) (by rfl) rfl ?_ ?_
            rotate_left
            ·go_simp
             rfl
            refine hK.out _ _ ⟨((cell_far (p := ⟨gb321, _, none⟩) NB314_321.out _).trans (((cell_far (p := ⟨gb321, _, none⟩) NB314_321.out _).trans (hHeld.1)))), ((cell_far (p := ⟨gb321, _, none⟩) NB314_321.out _).trans (((cell_far (p := ⟨gb321, _, none⟩) NB314_321.out _).trans (hHeld.2))))⟩ (fun hHeld => ?_)
            clear hK K
            refine done_ (done_of HT_.out (by kernel_rfl)) ?_
            have n0_ : Aside0 (Kd.R (Kd.int .i64) 3 ((w29.setCell ⟨gb321, 0, none⟩ (.int .i64 t319)).setCell ⟨gb321, 1, none⟩ (.int .i64 t320)) w.heap.size (fun _ => True) v317 y316) := ⟨by (with_reducible repeat (first | apply Kd.R_alloc | apply Kd.R_drewN | apply Kd.R_drew)); exact Kd.R_mono (Kd.R_far (p := ⟨gb321, 1, none⟩) (Kd.R_far (p := ⟨gb321, 0, none⟩) (Kd.R_types HO318.out BK321.out (by decide)) (fun _ hk => hk.2) (.int .i64 t319)) (fun _ hk => hk.2) (.int .i64 t320)) (fun _ hk => trivial)⟩
            have n1_ : Aside0 (((w29.setCell ⟨gb321, 0, none⟩ (.int .i64 t319)).setCell ⟨gb321, 1, none⟩ (.int .i64 t320)).heap[gb314]? = some (.cells #[.int .i64 a2_0, .int .i64 a2_1] 36 (0, 0))) := ⟨by (with_reducible repeat (first | refine blk_drewN ?_ _ | refine blk_drew ?_ | refine blk_alloc ?_ _)); refine blk_far ?_ NB314_321.out _; (with_reducible repeat (first | refine blk_drewN ?_ _ | refine blk_drew ?_ | refine blk_alloc ?_ _)); refine blk_far ?_ NB314_321.out _; (with_reducible repeat (first | refine blk_drewN ?_ _ | refine blk_drew ?_ | refine blk_alloc ?_ _)); exact BK314.out⟩
            have n2_ : Aside0 (((w29.setCell ⟨gb321, 0, none⟩ (.int .i64 t319)).setCell ⟨gb321, 1, none⟩ (.int .i64 t320)).heap[gb321]? = some (.cells #[.int .i64 t319, .int .i64 t320] 36 (0, 0))) := ⟨by (with_reducible repeat (first | refine blk_drewN ?_ _ | refine blk_drew ?_ | refine blk_alloc ?_ _)); refine blk_put (cs := #[.int .i64 t319, .int .i64 0]) ?_ 1 _ rfl; (with_reducible repeat (first | refine blk_drewN ?_ _ | refine blk_drew ?_ | refine blk_alloc ?_ _)); refine blk_put (cs := #[.int .i64 0, .int .i64 0]) ?_ 0 _ rfl; (with_reducible repeat (first | refine blk_drewN ?_ _ | refine blk_drew ?_ | refine blk_alloc ?_ _)); exact BK321.out⟩
            have n3_ : Aside0 (Below w.heap.size w ((w29.setCell ⟨gb321, 0, none⟩ (.int .i64 t319)).setCell ⟨gb321, 1, none⟩ (.int .i64 t320))) := ⟨by repeat (first | (with_reducible first | exact HB.out | apply below_alloc | apply pw_below_drewN | apply below_drew1 | refine below_set ?_ GE314.out | refine below_set ?_ GE321.out) | exact HB.out)⟩
            (try clear HO318)
            (try clear BK314)
            (try clear BK321)
            (try clear HB)
            generalize ((w29.setCell ⟨gb321, 0, none⟩ (.int .i64 t319)).setCell ⟨gb321, 1, none⟩ (.int .i64 t320)) = w32 at n0_ n1_ n2_ n3_ ⊢
            have HO318 := n0_
            have BK314 := n1_
            have BK321 := n2_
            have HB := n3_
            clear n0_ n1_ n2_ n3_
            have hnb33 := NB314_321.out
            have hnc33 := NB321_314.out
            have hcz34_0 : w32.cell? ⟨gb314, 0, none⟩ = some (.int .i64 a2_0) := (blk_cell BK314.out 0).trans rfl
            have hcz34_1 : w32.cell? ⟨gb314, 1, none⟩ = some (.int .i64 a2_1) := (blk_cell BK314.out 1).trans rfl
            have hfz34_0 := blk_frozen BK314.out 0
            have hfz34_1 := blk_frozen BK314.out 1
            obtain ⟨Ao35, co35, eo35⟩ := Kd.R_slice HO318.out
            subst eo35
            have p322 : 0 ≤ (a2_0 : Int) := odt_
            have q322 : a2_0 < (y316.length : Int) := odt_
            obtain ⟨ad322, e322, hx322_0⟩ := Kd.at_int (Kd.R_reads' HO318.out).2.2 a2_0 p322 q322
            cases e322
            replace p322 := eq_true p322
            replace q322 := eq_true q322
            have p11 : 0 ≤ (a2_0 : Int) := odt_
            have q11 : (a2_0 : Int) < ((y316.length : Int) : Int) := odt_
            obtain ⟨go11, co11, eo11, gb11, gl11, cl11, HG11⟩ := Kd.R_form HO318.out (by omega)
            (first | cases eo11 | (injection eo11 with ea_ en_ ec_; (first | subst ea_ | (injection ea_ with ea_; subst ea_)); subst ec_; clear en_))
            have GB11 := Aside0.mk gb11
            have GG11 := Aside0.mk HG11
            clear gb11 gl11 HG11
            (first | simp only [add_plain] at hx322_0 | skip)
            obtain ⟨hx11_0, hf11_0⟩ := Kd.R_celln 0 HO318.out (a2_0 : Int) p11 q11
            replace p11 := eq_true p11
            replace q11 := eq_true q11
            obtain ⟨hy36_, hz36_⟩ := Kd.R_celln 0 HO318.out (a2_0 : Int) (odt_) (odt_)
            have HP36 := Kd.R_putg HO318.out (a2_0 : Int) (wrap64 ((rd y316 a2_0) - 1))
            try go_wp2_with (first | ((with_reducible refine gate_store (t := 3) (p := 27) rfl ?_); refine store_event (t := 3) (p := 27) (v := ?vo_w37) (w1 := (w32.setCell ⟨go11, (a2_0 : Int).toNat, none⟩ (.int .i64 (wrap64 ((rd y316 a2_0) - 1))))) ?hg ?ho ?hn ?hr ?_; (case ho => rfl); (case hg => rfl); (case hn => rfl); (case hr => first | (go_simp; done) | (go_simp; rfl)); intro w37 hw; have hg : w32.grownBy w37 (some go11) := (by rw [hw]; exact HP36.2); have hp_ : Kd.R (Kd.int .i64) 3 w37 w.heap.size (fun _ => True) (.slice (some ⟨go11, 0, none⟩) y316.length co35) y323 := (by rw [hw, Ny323.out]; exact HP36.1); clear HP36; have n0_ := Aside0.mk (blk_grown (g := gb314) (o := .cells #[.int .i64 a2_0, .int .i64 a2_1] 36 (0, 0)) (bk_ BK314.out) hg (Kd.R_ne HO318.out BK314.out (by decide))); have n1_ := Aside0.mk (hp_); have n2_ := Aside0.mk (blk_grown (g := gb321) (o := .cells #[.int .i64 t319, .int .i64 t320] 36 (0, 0)) (bk_ BK321.out) hg (Kd.R_ne HO318.out BK321.out (by decide))); have n3_ := Aside0.mk ((by rw [hw]; exact below_set (HB.out) GB11.out : Below w.heap.size w w37)); clear BK314; clear HO318; clear BK321; clear HB; have BK314 := n0_; have HO318 := n1_; have BK321 := n2_; have HB := n3_; clear n0_ n1_ n2_ n3_; clear hg hw hp_; have hcz38_0 : w37.cell? ⟨gb314, 0, none⟩ = some (.int .i64 a2_0) := (blk_cell BK314.out 0).trans rfl; have hcz38_1 : w37.cell? ⟨gb314, 1, none⟩ = some (.int .i64 a2_1) := (blk_cell BK314.out 1).trans rfl; have hfz38_0 := blk_frozen BK314.out 0; have hfz38_1 := blk_frozen BK314.out 1; have p324 : 0 ≤ (a2_1 : Int) := odt_; have q324 : a2_1 < (y323.length : Int) := (by have h_ : (a2_1 : Int) < ((y316.length : Int) : Int) := odt_; first | (have e_ := (Kd.R_reads' HO318.out).1; omega) | simpa only [Ny323.out, List.length_set] using h_); have ql324 : ((a2_1 : Int) < ((y316.length : Int) : Int)) = True := eq_true (odt_); obtain ⟨ad324, e324, hx324_0⟩ := Kd.at_int (Kd.R_reads' HO318.out).2.2 a2_1 p324 q324; obtain rfl : (⟨go11, 0, none⟩ : Addr) = ad324 := (by injection e324); (first | simp only [add_plain] at hx324_0 | simp only [add_at] at hx324_0 | simp only [Addr.add, Nat.zero_add] at hx324_0 | skip); replace p324 := eq_true p324; replace q324 := eq_true q324; have p14 : 0 ≤ (a2_1 : Int) := odt_; have q14 : (a2_1 : Int) < ((y316.length : Int) : Int) := odt_; obtain ⟨hx14_0, hf14_0⟩ := Kd.R_celln 0 HO318.out (a2_1 : Int) p14 q14; replace p14 := eq_true p14; replace q14 := eq_true q14; obtain ⟨hy39_, hz39_⟩ := Kd.R_celln 0 HO318.out (a2_1 : Int) (odt_) (odt_); have HP39 := Kd.R_putg HO318.out (a2_1 : Int) (wrap64 ((rd y323 a2_1) - 1))) | ((with_reducible refine gate_store (t := 3) (p := 34) rfl ?_); refine store_event (t := 3) (p := 34) (v := ?vo_w40) (w1 := (w37.setCell ⟨go11, (a2_1 : Int).toNat, none⟩ (.int .i64 (wrap64 ((rd y323 a2_1) - 1))))) ?hg ?ho ?hn ?hr ?_; (case ho => rfl); (case hg => rfl); (case hn => rfl); (case hr => first | (go_simp; done) | (go_simp; rfl)); intro w40 hw; have hg : w37.grownBy w40 (some go11) := (by rw [hw]; exact HP39.2); have hp_ : Kd.R (Kd.int .i64) 3 w40 w.heap.size (fun _ => True) (.slice (some ⟨go11, 0, none⟩) y316.length co35) y325 := (by rw [hw, Ny325.out]; exact HP39.1); clear HP39; have n0_ := Aside0.mk (blk_grown (g := gb314) (o := .cells #[.int .i64 a2_0, .int .i64 a2_1] 36 (0, 0)) (bk_ BK314.out) hg (Kd.R_ne HO318.out BK314.out (by decide))); have n1_ := Aside0.mk (hp_); have n2_ := Aside0.mk (blk_grown (g := gb321) (o := .cells #[.int .i64 t319, .int .i64 t320] 36 (0, 0)) (bk_ BK321.out) hg (Kd.R_ne HO318.out BK321.out (by decide))); have n3_ := Aside0.mk ((by rw [hw]; exact below_set (HB.out) GB11.out : Below w.heap.size w w40)); clear BK314; clear HO318; clear BK321; clear HB; have BK314 := n0_; have HO318 := n1_; have BK321 := n2_; have HB := n3_; clear n0_ n1_ n2_ n3_; clear hg hw hp_; have hcz41_0 : w40.cell? ⟨gb321, 0, none⟩ = some (.int .i64 t319) := (blk_cell BK321.out 0).trans rfl; have hcz41_1 : w40.cell? ⟨gb321, 1, none⟩ = some (.int .i64 t320) := (blk_cell BK321.out 1).trans rfl; have hfz41_0 := blk_frozen BK321.out 0; have hfz41_1 := blk_frozen BK321.out 1; have p326 : 0 ≤ (t319 : Int) := odt_; have q326 : t319 < (y325.length : Int) := (by have h_ : (t319 : Int) < ((y316.length : Int) : Int) := odt_; first | (have e_ := (Kd.R_reads' HO318.out).1; omega) | simpa only [Ny323.out, Ny325.out, List.length_set] using h_); have ql326 : ((t319 : Int) < ((y316.length : Int) : Int)) = True := eq_true (odt_); obtain ⟨ad326, e326, hx326_0⟩ := Kd.at_int (Kd.R_reads' HO318.out).2.2 t319 p326 q326; obtain rfl : (⟨go11, 0, none⟩ : Addr) = ad326 := (by injection e326); (first | simp only [add_plain] at hx326_0 | simp only [add_at] at hx326_0 | simp only [Addr.add, Nat.zero_add] at hx326_0 | skip); replace p326 := eq_true p326; replace q326 := eq_true q326; have p17 : 0 ≤ (t319 : Int) := odt_; have q17 : (t319 : Int) < ((y316.length : Int) : Int) := odt_; obtain ⟨hx17_0, hf17_0⟩ := Kd.R_celln 0 HO318.out (t319 : Int) p17 q17; replace p17 := eq_true p17; replace q17 := eq_true q17; obtain ⟨hy42_, hz42_⟩ := Kd.R_celln 0 HO318.out (t319 : Int) (odt_) (odt_); have HP42 := Kd.R_putg HO318.out (t319 : Int) (wrap64 ((rd y325 t319) + 1))) | ((with_reducible refine gate_store (t := 3) (p := 41) rfl ?_); refine store_event (t := 3) (p := 41) (v := ?vo_w43) (w1 := (w40.setCell ⟨go11, (t319 : Int).toNat, none⟩ (.int .i64 (wrap64 ((rd y325 t319) + 1))))) ?hg ?ho ?hn ?hr ?_; (case ho => rfl); (case hg => rfl); (case hn => rfl); (case hr => first | (go_simp; done) | (go_simp; rfl)); intro w43 hw; have hg : w40.grownBy w43 (some go11) := (by rw [hw]; exact HP42.2); have hp_ : Kd.R (Kd.int .i64) 3 w43 w.heap.size (fun _ => True) (.slice (some ⟨go11, 0, none⟩) y316.length co35) y327 := (by rw [hw, Ny327.out]; exact HP42.1); clear HP42; have n0_ := Aside0.mk (blk_grown (g := gb314) (o := .cells #[.int .i64 a2_0, .int .i64 a2_1] 36 (0, 0)) (bk_ BK314.out) hg (Kd.R_ne HO318.out BK314.out (by decide))); have n1_ := Aside0.mk (hp_); have n2_ := Aside0.mk (blk_grown (g := gb321) (o := .cells #[.int .i64 t319, .int .i64 t320] 36 (0, 0)) (bk_ BK321.out) hg (Kd.R_ne HO318.out BK321.out (by decide))); have n3_ := Aside0.mk ((by rw [hw]; exact below_set (HB.out) GB11.out : Below w.heap.size w w43)); clear BK314; clear HO318; clear BK321; clear HB; have BK314 := n0_; have HO318 := n1_; have BK321 := n2_; have HB := n3_; clear n0_ n1_ n2_ n3_; clear hg hw hp_; have hcz44_0 : w43.cell? ⟨gb321, 0, none⟩ = some (.int .i64 t319) := (blk_cell BK321.out 0).trans rfl; have hcz44_1 : w43.cell? ⟨gb321, 1, none⟩ = some (.int .i64 t320) := (blk_cell BK321.out 1).trans rfl; have hfz44_0 := blk_frozen BK321.out 0; have hfz44_1 := blk_frozen BK321.out 1; have p328 : 0 ≤ (t320 : Int) := odt_; have q328 : t320 < (y327.length : Int) := (by have h_ : (t320 : Int) < ((y316.length : Int) : Int) := odt_; first | (have e_ := (Kd.R_reads' HO318.out).1; omega) | simpa only [Ny323.out, Ny325.out, Ny327.out, List.length_set] using h_); have ql328 : ((t320 : Int) < ((y316.length : Int) : Int)) = True := eq_true (odt_); obtain ⟨ad328, e328, hx328_0⟩ := Kd.at_int (Kd.R_reads' HO318.out).2.2 t320 p328 q328; obtain rfl : (⟨go11, 0, none⟩ : Addr) = ad328 := (by injection e328); (first | simp only [add_plain] at hx328_0 | simp only [add_at] at hx328_0 | simp only [Addr.add, Nat.zero_add] at hx328_0 | skip); replace p328 := eq_true p328; replace q328 := eq_true q328; have p20 : 0 ≤ (t320 : Int) := odt_; have q20 : (t320 : Int) < ((y316.length : Int) : Int) := odt_; obtain ⟨hx20_0, hf20_0⟩ := Kd.R_celln 0 HO318.out (t320 : Int) p20 q20; replace p20 := eq_true p20; replace q20 := eq_true q20; obtain ⟨hy45_, hz45_⟩ := Kd.R_celln 0 HO318.out (t320 : Int) (odt_) (odt_); have HP45 := Kd.R_putg HO318.out (t320 : Int) (wrap64 ((rd y327 t320) + 1))) | ((with_reducible refine gate_store (t := 3) (p := 48) rfl ?_); refine store_event (t := 3) (p := 48) (v := ?vo_w46) (w1 := (w43.setCell ⟨go11, (t320 : Int).toNat, none⟩ (.int .i64 (wrap64 ((rd y327 t320) + 1))))) ?hg ?ho ?hn ?hr ?_; (case ho => rfl); (case hg => rfl); (case hn => rfl); (case hr => first | (go_simp; done) | (go_simp; rfl)); intro w46 hw; have hg : w43.grownBy w46 (some go11) := (by rw [hw]; exact HP45.2); have hp_ : Kd.R (Kd.int .i64) 3 w46 w.heap.size (fun _ => True) (.slice (some ⟨go11, 0, none⟩) y316.length co35) y329 := (by rw [hw, Ny329.out]; exact HP45.1); clear HP45; have n0_ := Aside0.mk (blk_grown (g := gb314) (o := .cells #[.int .i64 a2_0, .int .i64 a2_1] 36 (0, 0)) (bk_ BK314.out) hg (Kd.R_ne HO318.out BK314.out (by decide))); have n1_ := Aside0.mk (hp_); have n2_ := Aside0.mk (blk_grown (g := gb321) (o := .cells #[.int .i64 t319, .int .i64 t320] 36 (0, 0)) (bk_ BK321.out) hg (Kd.R_ne HO318.out BK321.out (by decide))); have n3_ := Aside0.mk ((by rw [hw]; exact below_set (HB.out) GB11.out : Below w.heap.size w w46)); clear BK314; clear HO318; clear BK321; clear HB; have BK314 := n0_; have HO318 := n1_; have BK321 := n2_; have HB := n3_; clear n0_ n1_ n2_ n3_; clear hg hw hp_))
            go_ret2
            exact ⟨_, by first | rfl | (simp [errW_none, errW_some] <;> rfl) | (simp [*, errW_none, errW_some] <;> rfl), by (with_reducible repeat (first | apply Kd.R_alloc | apply Kd.R_drewN | apply Kd.R_drew)); exact HO318.out, by repeat (first | (with_reducible first | exact HB.out | apply below_alloc | apply pw_below_drewN | apply below_drew1 | refine below_set ?_ GE314.out | refine below_set ?_ GE321.out) | exact HB.out)⟩
           ·rw [if_neg c19] at H
            exact absurd H (by simp)
          ·rw [if_neg c18] at H
           exact absurd H (by simp)
         ·rw [if_neg c16] at H
          exact absurd H (by simp)
        ·rw [if_neg c15] at H
         exact absurd H (by simp)
       ·rw [if_neg c13] at H
        exact absurd H (by simp)
      ·rw [if_neg c12] at H
       exact absurd H (by simp)
     ·rw [if_neg c10] at H
      exact absurd H (by simp)
    ·rw [if_neg c9] at H
     exact absurd H (by simp)
   ·rw [if_neg c7] at H
    exact absurd H (by simp)
  ·rw [if_neg c6] at H
   exact absurd H (by simp)
 ·replace c5 := Bool.eq_false_iff.mpr c5
  subst c5
  have H1 : (some (([] : List Int), false)) = some (r1, r2) := by rw [if_neg (show ¬ (false = true) by decide)] at H; exact H
  clear H
  have H := H1
  clear H1
  simp only [Option.some.injEq, Prod.mk.injEq] at H
  obtain ⟨rfl, rfl⟩ := H
  go_enter Try.func29, Try.ntmps29
  go_wp2_with (first | ((with_reducible refine gate_dst (N := 5) rfl ?_); refine box_event ?hg (N := 5) ?hd (cs := #[.int .i64 a2_0, .int .i64 a2_1]) (t := 36) ?hr ?_; (case hd => rfl); (case hg => rfl); (case hr => first | (go_simp; done) | (go_simp; rfl)); intro gb314 hg w47 hbox hb; have n0_ := Aside0.mk (below_step blw_ hb); have n1_ := Aside0.mk (hbox); have n2_ := Aside0.mk ((by rw [hg]; exact (below_size blw_) : w.heap.size ≤ gb314)); have n3_ := Aside0.mk ((by rw [hg]; exact (below_size blw_) : w.heap.size ≤ gb314)); clear HB; have HB := n0_; have BK314 := n1_; have GW314 := n2_; have GE314 := n3_; clear n0_ n1_ n2_ n3_; clear hb hbox hg; have hcz48_0 : w47.cell? ⟨gb314, 0, none⟩ = some (.int .i64 a2_0) := (blk_cell BK314.out 0).trans rfl; have hcz48_1 : w47.cell? ⟨gb314, 1, none⟩ = some (.int .i64 a2_1) := (blk_cell BK314.out 1).trans rfl; have hfz48_0 := blk_frozen BK314.out 0; have hfz48_1 := blk_frozen BK314.out 1) | ((with_reducible refine gate_callee (f := 68) rfl ?_); refine goesL_ (some 13) rfl rfl Try.func68 (by kernel_rfl) rfl #[.int .i64 a0, .slice A1 l1.length c1, .agg #[.int .i64 a2_0, .int .i64 a2_1]] rfl amp_ ?_; (with_reducible refine (impl_isFlip.calls k a0 _ _ l1 a2_0 a2_1 false _ ?side1 ?side2 A4.out).mono ?_); (case side1 => repeat (first | exact (Kd.C_below HR1.out HB.out) | (with_reducible refine Kd.C_alloc ?_ _) | (with_reducible refine Kd.C_drewN ?_ _) | (with_reducible refine Kd.C_drew ?_))); (case side2 => exact HC1.out); rintro e w49 ⟨rfl, hb⟩; refine ⟨_, rfl, ?_⟩; have n0_ := Aside0.mk (blk_below (g := gb314) (o := .cells #[.int .i64 a2_0, .int .i64 a2_1] 36 (0, 0)) (bk_ BK314.out) hb); have n1_ := Aside0.mk (below_step (by repeat (first | (with_reducible first | exact HB.out | apply below_alloc | apply pw_below_drewN | apply below_drew1 | refine below_set ?_ GE314.out) | exact HB.out)) hb); clear BK314; clear HB; have BK314 := n0_; have HB := n1_; clear n0_ n1_; (try clear hb); (try clear hb2); (try clear hk); (try clear hi)))
  go_ret2
  exact ⟨_, by first | rfl | (simp [errW_none, errW_some] <;> rfl) | (simp [*, errW_none, errW_some] <;> rfl), by first | exact Kd.R_nil _ _ _ _ _ | exact Kd.N_nil _ _ _ _ _ | exact Kd.V_nil _ _ _ _ _ | exact Kd.Q_nil _ _ _ _ _ | exact Kd.S_nil _ _ _ _ _, by repeat (first | (with_reducible first | exact HB.out | apply below_alloc | apply pw_below_drewN | apply below_drew1 | refine below_set ?_ GE314.out) | exact HB.out)⟩

end Go.Proofs.Ytkipgbakoljaeaa.PFnExactQuiddityChange
