-- WRITTEN BY A PROGRAM OF THIS WORK (wip/tools/ppatch.py) for this claim.
import Derived.Test.YtkipgbakoljaeaaPFnExactAllFlipsx0
import Derived.Test.YtkipgbakoljaeaaPFnExactAllFlipsx2
import Derived.Test.YtkipgbakoljaeaaPFnExactAllFlipsx7
import Derived.Test.YtkipgbakoljaeaaPFnExactAllFlipsx13
import Derived.Test.YtkipgbakoljaeaaPFnExactAllFlipsx14
namespace Go.Proofs.Ytkipgbakoljaeaa.PFnExactAllFlips
open Go.RowKit Go.Proofs.YtkipgbakoljaeaaW.PrintWords Go.Proofs.YtkipgbakoljaeaaW.PrintLast Go.Proofs.YtkipgbakoljaeaaW.PrintMore
attribute [local go_sem] max2_int min2_int max_two min_two max_three min_three max_four min_four   -- for this text's walks alone
set_option linter.unusedVariables false
set_option linter.unusedSimpArgs false

/-! ### laws_FnExactAllFlips: function 11 -/
mutual
def laws_FnExactAllFlips.j0 : Nat → Int → List (S35) → List (List (S36)) → Bool → List (S36) → List (List (S36)) → Bool → Bool → Option (Bool)
 | 0, _, _, _, _, _, _, _, _ => none
 | k + 1, x0, x1, x6, x7, x8, x9, x10, x44 => if x44 = true then (some false) else ((laws_toDiagonalS.f k x1).bind fun t349 => ((laws_eqDiagonalS.f k x8 t349).bind fun t352 => (if t352 = true then ((laws_markDiagonalS.f k x8 1).bind fun bt353 => (if bt353.1 < 0 then (laws_FnExactAllFlips.j1 k x0 x1 x6 x7 x9 true) else ((laws_eqDiagonalSS.f k x9 x6).bind fun t355 => (if t355 = true then (laws_FnExactAllFlips.j1 k x0 x1 x6 x7 x9 (x10 != x7)) else (laws_FnExactAllFlips.j1 k x0 x1 x6 x7 x9 true))))) else (some false))))
def laws_FnExactAllFlips.j1 : Nat → Int → List (S35) → List (List (S36)) → Bool → List (List (S36)) → Bool → Option (Bool)
 | 0, _, _, _, _, _, _ => none
 | k + 1, x0, x1, x6, x7, x9, x65 => if x65 = true then (some false) else ((laws_markDiagonalSS.f k x9 1).bind fun bt356 => ((laws_heldDiagonalSS.f k bt356.2 1).bind fun t358 => (if t358 < 0 then (some false) else (if t358 = bt356.1 then ((laws_toDiagonalS.f k x1).bind fun t359 => ((impl_AllFlips.f k x0 t359).bind fun bt362 => ((laws_eqDiagonalSS.f k bt362.1 x6).bind fun t366 => (if t366 = true then (laws_FnExactAllFlips.j2 k bt356.2 bt356.1 (bt362.2 != x7)) else (laws_FnExactAllFlips.j2 k bt356.2 bt356.1 true))))) else (some false)))))
def laws_FnExactAllFlips.j2 : Nat → List (List (S36)) → Int → Bool → Option (Bool)
 | 0, _, _, _ => none
 | k + 1, x9, x12, x92 => if x92 = true then (some false) else ((laws_heldDiagonalSS.f k x9 1).bind fun t367 => (if t367 < 0 then (some false) else (if t367 = x12 then (some true) else (some false))))
end
def laws_FnExactAllFlips.f (k : Nat) (a0 : Int) (l1 : List (S35)) : Option (Bool) := (laws_szDiagonalS.f l1 1048576).bind fun t333 => (if t333 < 0 then (some true) else ((laws_toDiagonalS.f k l1).bind fun t334 => ((spec_AllFlips.f k a0 t334).bind fun bt337 => ((laws_toDiagonalS.f k l1).bind fun t341 => ((impl_AllFlips.f k a0 t341).bind fun bt344 => ((laws_eqDiagonalSS.f k bt344.1 bt337.1).bind fun t348 => (if t348 = true then (laws_FnExactAllFlips.j0 k a0 l1 bt337.1 bt337.2 t341 bt344.1 bt344.2 (bt344.2 != bt337.2)) else (laws_FnExactAllFlips.j0 k a0 l1 bt337.1 bt337.2 t341 bt344.1 bt344.2 true))))))))
theorem laws_FnExactAllFlips.mono_l : ∀ k, (∀ y0 y1 y2 y3 y4 y5 y6 y7, LeO (laws_FnExactAllFlips.j0 k y0 y1 y2 y3 y4 y5 y6 y7) (laws_FnExactAllFlips.j0 (k + 1) y0 y1 y2 y3 y4 y5 y6 y7)) ∧ (∀ y0 y1 y2 y3 y4 y5, LeO (laws_FnExactAllFlips.j1 k y0 y1 y2 y3 y4 y5) (laws_FnExactAllFlips.j1 (k + 1) y0 y1 y2 y3 y4 y5)) ∧ (∀ y0 y1 y2, LeO (laws_FnExactAllFlips.j2 k y0 y1 y2) (laws_FnExactAllFlips.j2 (k + 1) y0 y1 y2))
 | 0 => ⟨fun _ _ _ _ _ _ _ _ r h => by simp [laws_FnExactAllFlips.j0] at h, fun _ _ _ _ _ _ r h => by simp [laws_FnExactAllFlips.j1] at h, fun _ _ _ r h => by simp [laws_FnExactAllFlips.j2] at h⟩
 | k + 1 => by
  obtain ⟨ih0, ih1, ih2⟩ := laws_FnExactAllFlips.mono_l k
  refine ⟨?_, ?_, ?_⟩
  ·intro y0 y1 y2 y3 y4 y5 y6 y7
   unfold laws_FnExactAllFlips.j0
   repeat' first
   | (with_reducible exact ih0 _ _ _ _ _ _ _ _)
   | (with_reducible exact ih1 _ _ _ _ _ _)
   | (with_reducible exact ih2 _ _ _)
   | (with_reducible exact impl_AllFlips.mono _ _ _)
   | (with_reducible exact laws_eqDiagonalS.mono _ _ _)
   | (with_reducible exact laws_eqDiagonalSS.mono _ _ _)
   | (with_reducible exact laws_heldDiagonalSS.mono _ _ _)
   | (with_reducible exact laws_markDiagonalS.mono _ _ _)
   | (with_reducible exact laws_markDiagonalSS.mono _ _ _)
   | (with_reducible exact laws_toDiagonalS.mono _ _)
   | (with_reducible exact spec_AllFlips.mono _ _ _)
   | (with_reducible exact LeO.refl _)
   | (with_reducible exact LeO.none _)
   | (with_reducible refine LeO.ite ?_ ?_)
   | (with_reducible refine LeO.bind ?_ (fun _ => ?_))
   | exact ih0 _ _ _ _ _ _ _ _
   | exact ih1 _ _ _ _ _ _
   | exact ih2 _ _ _
   | exact impl_AllFlips.mono _ _ _
   | exact laws_eqDiagonalS.mono _ _ _
   | exact laws_eqDiagonalSS.mono _ _ _
   | exact laws_heldDiagonalSS.mono _ _ _
   | exact laws_markDiagonalS.mono _ _ _
   | exact laws_markDiagonalSS.mono _ _ _
   | exact laws_toDiagonalS.mono _ _
   | exact spec_AllFlips.mono _ _ _
   | exact LeO.none _
   | refine LeO.ite ?_ ?_
   | refine LeO.bind ?_ (fun _ => ?_)
  ·intro y0 y1 y2 y3 y4 y5
   unfold laws_FnExactAllFlips.j1
   repeat' first
   | (with_reducible exact ih0 _ _ _ _ _ _ _ _)
   | (with_reducible exact ih1 _ _ _ _ _ _)
   | (with_reducible exact ih2 _ _ _)
   | (with_reducible exact impl_AllFlips.mono _ _ _)
   | (with_reducible exact laws_eqDiagonalS.mono _ _ _)
   | (with_reducible exact laws_eqDiagonalSS.mono _ _ _)
   | (with_reducible exact laws_heldDiagonalSS.mono _ _ _)
   | (with_reducible exact laws_markDiagonalS.mono _ _ _)
   | (with_reducible exact laws_markDiagonalSS.mono _ _ _)
   | (with_reducible exact laws_toDiagonalS.mono _ _)
   | (with_reducible exact spec_AllFlips.mono _ _ _)
   | (with_reducible exact LeO.refl _)
   | (with_reducible exact LeO.none _)
   | (with_reducible refine LeO.ite ?_ ?_)
   | (with_reducible refine LeO.bind ?_ (fun _ => ?_))
   | exact ih0 _ _ _ _ _ _ _ _
   | exact ih1 _ _ _ _ _ _
   | exact ih2 _ _ _
   | exact impl_AllFlips.mono _ _ _
   | exact laws_eqDiagonalS.mono _ _ _
   | exact laws_eqDiagonalSS.mono _ _ _
   | exact laws_heldDiagonalSS.mono _ _ _
   | exact laws_markDiagonalS.mono _ _ _
   | exact laws_markDiagonalSS.mono _ _ _
   | exact laws_toDiagonalS.mono _ _
   | exact spec_AllFlips.mono _ _ _
   | exact LeO.none _
   | refine LeO.ite ?_ ?_
   | refine LeO.bind ?_ (fun _ => ?_)
  ·intro y0 y1 y2
   unfold laws_FnExactAllFlips.j2
   repeat' first
   | (with_reducible exact ih0 _ _ _ _ _ _ _ _)
   | (with_reducible exact ih1 _ _ _ _ _ _)
   | (with_reducible exact ih2 _ _ _)
   | (with_reducible exact impl_AllFlips.mono _ _ _)
   | (with_reducible exact laws_eqDiagonalS.mono _ _ _)
   | (with_reducible exact laws_eqDiagonalSS.mono _ _ _)
   | (with_reducible exact laws_heldDiagonalSS.mono _ _ _)
   | (with_reducible exact laws_markDiagonalS.mono _ _ _)
   | (with_reducible exact laws_markDiagonalSS.mono _ _ _)
   | (with_reducible exact laws_toDiagonalS.mono _ _)
   | (with_reducible exact spec_AllFlips.mono _ _ _)
   | (with_reducible exact LeO.refl _)
   | (with_reducible exact LeO.none _)
   | (with_reducible refine LeO.ite ?_ ?_)
   | (with_reducible refine LeO.bind ?_ (fun _ => ?_))
   | exact ih0 _ _ _ _ _ _ _ _
   | exact ih1 _ _ _ _ _ _
   | exact ih2 _ _ _
   | exact impl_AllFlips.mono _ _ _
   | exact laws_eqDiagonalS.mono _ _ _
   | exact laws_eqDiagonalSS.mono _ _ _
   | exact laws_heldDiagonalSS.mono _ _ _
   | exact laws_markDiagonalS.mono _ _ _
   | exact laws_markDiagonalSS.mono _ _ _
   | exact laws_toDiagonalS.mono _ _
   | exact spec_AllFlips.mono _ _ _
   | exact LeO.none _
   | refine LeO.ite ?_ ?_
   | refine LeO.bind ?_ (fun _ => ?_)
theorem laws_FnExactAllFlips.mono : ∀ a0 a1 k, LeO (laws_FnExactAllFlips.f k a0 a1) (laws_FnExactAllFlips.f (k + 1) a0 a1) := by
 intro a0 a1 k
 obtain ⟨ih0, ih1, ih2⟩ := laws_FnExactAllFlips.mono_l k
 unfold laws_FnExactAllFlips.f
 repeat' first
   | (with_reducible exact ih0 _ _ _ _ _ _ _ _)
   | (with_reducible exact ih1 _ _ _ _ _ _)
   | (with_reducible exact ih2 _ _ _)
   | (with_reducible exact impl_AllFlips.mono _ _ _)
   | (with_reducible exact laws_eqDiagonalS.mono _ _ _)
   | (with_reducible exact laws_eqDiagonalSS.mono _ _ _)
   | (with_reducible exact laws_heldDiagonalSS.mono _ _ _)
   | (with_reducible exact laws_markDiagonalS.mono _ _ _)
   | (with_reducible exact laws_markDiagonalSS.mono _ _ _)
   | (with_reducible exact laws_toDiagonalS.mono _ _)
   | (with_reducible exact spec_AllFlips.mono _ _ _)
   | (with_reducible exact LeO.refl _)
   | (with_reducible exact LeO.none _)
   | (with_reducible refine LeO.ite ?_ ?_)
   | (with_reducible refine LeO.bind ?_ (fun _ => ?_))
   | exact ih0 _ _ _ _ _ _ _ _
   | exact ih1 _ _ _ _ _ _
   | exact ih2 _ _ _
   | exact impl_AllFlips.mono _ _ _
   | exact laws_eqDiagonalS.mono _ _ _
   | exact laws_eqDiagonalSS.mono _ _ _
   | exact laws_heldDiagonalSS.mono _ _ _
   | exact laws_markDiagonalS.mono _ _ _
   | exact laws_markDiagonalSS.mono _ _ _
   | exact laws_toDiagonalS.mono _ _
   | exact spec_AllFlips.mono _ _ _
   | exact LeO.none _
   | refine LeO.ite ?_ ?_
   | refine LeO.bind ?_ (fun _ => ?_)
theorem ss_size {W w1 : World} (_ : Below W.heap.size W w1) : ∃ N : Nat, Aside0 (N = W.heap.size) := ⟨_, ⟨rfl⟩⟩
theorem ss_old {α : Type} {d : Kd α} {e base N : Nat} {ok : Nat → Prop} {u : Value} {xs : List α} {W w1 : World} (h : Kd.S d e W base ok u xs) (hb : Below W.heap.size W w1) (hN : Aside0 (N = W.heap.size)) : Kd.S d e w1 base (fun k => ok k ∧ k < N) u xs := by
 rw [hN.out]
 exact Kd.S_old h hb
theorem ss_new {α : Type} {d : Kd α} {e N : Nat} {ok : Nat → Prop} {u : Value} {xs : List α} {W w1 : World} (h : Kd.S d e w1 W.heap.size ok u xs) (hN : Aside0 (N = W.heap.size)) : Kd.S d e w1 W.heap.size (fun k => ok k ∧ N ≤ k) u xs :=
 Kd.S_mono (Kd.S_bound h) (fun k hk => ⟨hk.1, by rw [hN.out]; exact hk.2.1⟩)
set_option maxHeartbeats 8000000 in
set_option maxRecDepth 100000 in
theorem laws_FnExactAllFlips.calls (k : Nat) (a0 : Int) (A1 : Option Addr) (c1 : Nat) (l1 : List (S35)) (r : Bool) (w : World) (hr1 : Kd.C k35 w A1 l1.length l1) (hc1 : l1.length ≤ c1) (h : laws_FnExactAllFlips.f k a0 l1 = some r) (htrue : Aside0 (r = true) := by exact ⟨rfl⟩) :
  Calls Try.prog 11 #[.int .i64 a0, .slice A1 l1.length c1] w fun e w' => e = .returned (.bool r) ∧ Below w.heap.size w w' := by
 have HR1 := Aside0.mk hr1
 have HC1 := Aside0.mk hc1
 clear hr1 hc1
 have HB := Aside0.mk (Below.refl w.heap.size w)
 have H : ((laws_szDiagonalS.f l1 1048576).bind fun t333 => (if t333 < 0 then (some true) else ((laws_toDiagonalS.f k l1).bind fun t334 => ((spec_AllFlips.f k a0 t334).bind fun bt337 => ((laws_toDiagonalS.f k l1).bind fun t341 => ((impl_AllFlips.f k a0 t341).bind fun bt344 => ((laws_eqDiagonalSS.f k bt344.1 bt337.1).bind fun t348 => (if t348 = true then (laws_FnExactAllFlips.j0 k a0 l1 bt337.1 bt337.2 t341 bt344.1 bt344.2 (bt344.2 != bt337.2)) else (laws_FnExactAllFlips.j0 k a0 l1 bt337.1 bt337.2 t341 bt344.1 bt344.2 true))))))))) = some r := h
 clear h
 replace H := Option.bind_eq_some_iff.mp H
 obtain ⟨t333, A30, H⟩ := H
 replace H : (if t333 < 0 then (some true) else ((laws_toDiagonalS.f k l1).bind fun t334 => ((spec_AllFlips.f k a0 t334).bind fun bt337 => ((laws_toDiagonalS.f k l1).bind fun t341 => ((impl_AllFlips.f k a0 t341).bind fun bt344 => ((laws_eqDiagonalSS.f k bt344.1 bt337.1).bind fun t348 => (if t348 = true then (laws_FnExactAllFlips.j0 k a0 l1 bt337.1 bt337.2 t341 bt344.1 bt344.2 (bt344.2 != bt337.2)) else (laws_FnExactAllFlips.j0 k a0 l1 bt337.1 bt337.2 t341 bt344.1 bt344.2 true)))))))) = some r := H
 have A3 := Aside0.mk A30
 clear A30
 by_cases c4 : t333 < 0
 ·rw [if_pos c4] at H
  have c4b0 : decide (t333 < 0) = true := decide_eq_true c4
  clear c4
  obtain rfl := Option.some.inj H
  go_enter Try.func11, Try.ntmps11
  go_wp2_with (first | ((with_reducible refine gate_callee (f := 20) rfl ?_); refine goesL_ (some 18) rfl rfl Try.func20 (by kernel_rfl) rfl #[.slice A1 l1.length c1, .int .i64 1048576] rfl amp_ ?_; (with_reducible refine (laws_szDiagonalS.calls _ _ l1 1048576 t333 _ ?side1 ?side2 A3.out).mono ?_); (case side1 => repeat (first | exact HR1.out | (with_reducible refine Kd.C_alloc ?_ _) | (with_reducible refine Kd.C_drewN ?_ _) | (with_reducible refine Kd.C_drew ?_))); (case side2 => exact HC1.out); rintro e w' ⟨rfl, ⟨nd, rfl⟩⟩; refine ⟨_, rfl, ?_⟩))
  go_ret
  exact ⟨by first | rfl | (simp [errW_none, errW_some] <;> rfl) | (simp [*, errW_none, errW_some] <;> rfl), by repeat (first | (with_reducible first | exact HB.out | apply below_alloc | apply pw_below_drewN | apply below_drew1) | exact HB.out)⟩
 ·rw [if_neg c4] at H
  have c4b0 : decide (t333 < 0) = false := decide_eq_false c4
  clear c4
  replace H := Option.bind_eq_some_iff.mp H
  obtain ⟨t334, A50, H⟩ := H
  replace H : ((spec_AllFlips.f k a0 t334).bind fun bt337 => ((laws_toDiagonalS.f k l1).bind fun t341 => ((impl_AllFlips.f k a0 t341).bind fun bt344 => ((laws_eqDiagonalSS.f k bt344.1 bt337.1).bind fun t348 => (if t348 = true then (laws_FnExactAllFlips.j0 k a0 l1 bt337.1 bt337.2 t341 bt344.1 bt344.2 (bt344.2 != bt337.2)) else (laws_FnExactAllFlips.j0 k a0 l1 bt337.1 bt337.2 t341 bt344.1 bt344.2 true)))))) = some r := H
  have A5 := Aside0.mk A50
  clear A50
  replace H := Option.bind_eq_some_iff.mp H
  obtain ⟨⟨t337, t338⟩, A60, H⟩ := H
  replace H : ((laws_toDiagonalS.f k l1).bind fun t341 => ((impl_AllFlips.f k a0 t341).bind fun bt344 => ((laws_eqDiagonalSS.f k bt344.1 t337).bind fun t348 => (if t348 = true then (laws_FnExactAllFlips.j0 k a0 l1 t337 t338 t341 bt344.1 bt344.2 (bt344.2 != t338)) else (laws_FnExactAllFlips.j0 k a0 l1 t337 t338 t341 bt344.1 bt344.2 true))))) = some r := H
  have A6 := Aside0.mk A60
  clear A60
  replace H := Option.bind_eq_some_iff.mp H
  obtain ⟨t341, A70, H⟩ := H
  replace H : ((impl_AllFlips.f k a0 t341).bind fun bt344 => ((laws_eqDiagonalSS.f k bt344.1 t337).bind fun t348 => (if t348 = true then (laws_FnExactAllFlips.j0 k a0 l1 t337 t338 t341 bt344.1 bt344.2 (bt344.2 != t338)) else (laws_FnExactAllFlips.j0 k a0 l1 t337 t338 t341 bt344.1 bt344.2 true)))) = some r := H
  have A7 := Aside0.mk A70
  clear A70
  replace H := Option.bind_eq_some_iff.mp H
  obtain ⟨⟨t344, t345⟩, A80, H⟩ := H
  replace H : ((laws_eqDiagonalSS.f k t344 t337).bind fun t348 => (if t348 = true then (laws_FnExactAllFlips.j0 k a0 l1 t337 t338 t341 t344 t345 (t345 != t338)) else (laws_FnExactAllFlips.j0 k a0 l1 t337 t338 t341 t344 t345 true))) = some r := H
  have A8 := Aside0.mk A80
  clear A80
  have HC9 := Aside0.mk H
  clear H
  go_enter Try.func11, Try.ntmps11
  go_upto_region 8 with (first | ((with_reducible refine gate_callee (f := 20) rfl ?_); refine goesL_ (some 18) rfl rfl Try.func20 (by kernel_rfl) rfl #[.slice A1 l1.length c1, .int .i64 1048576] rfl amp_ ?_; (with_reducible refine (laws_szDiagonalS.calls _ _ l1 1048576 t333 _ ?side1 ?side2 A3.out).mono ?_); (case side1 => repeat (first | exact HR1.out | (with_reducible refine Kd.C_alloc ?_ _) | (with_reducible refine Kd.C_drewN ?_ _) | (with_reducible refine Kd.C_drew ?_))); (case side2 => exact HC1.out); rintro e w' ⟨rfl, ⟨nd, rfl⟩⟩; refine ⟨_, rfl, ?_⟩) | ((with_reducible refine gate_callee (f := 22) rfl ?_); refine goesL_ (some 24) rfl rfl Try.func22 (by kernel_rfl) rfl #[.slice A1 l1.length c1] rfl amp_ ?_; (with_reducible refine (laws_toDiagonalS.calls k _ _ l1 t334 _ ?side1 ?side2 A5.out).mono ?_); (case side1 => repeat (first | exact HR1.out | (with_reducible refine Kd.C_alloc ?_ _) | (with_reducible refine Kd.C_drewN ?_ _) | (with_reducible refine Kd.C_drew ?_))); (case side2 => exact HC1.out); rintro e w10 ⟨v335, rfl, ho0, hb⟩; refine ⟨_, rfl, ?_⟩; have n0_ := Aside0.mk (Kd.R_lower ho0 (below_size blw_)); have n1_ := Aside0.mk (below_step blw_ hb); clear HB; have HO336 := n0_; have HB := n1_; clear n0_ n1_; (try clear hb); (try clear hb2); (try clear hk); (try clear hi); (try clear ho0); obtain ⟨Ao11, co11, eo11⟩ := Kd.R_slice HO336.out; subst eo11) | ((with_reducible refine gate_callee (f := 41) rfl ?_); refine goesL_ (some 25) rfl rfl Try.func41 (by kernel_rfl) rfl #[.int .i64 a0, .slice Ao11 t334.length co11] rfl amp_ ?_; (with_reducible refine (spec_AllFlips.calls k a0 _ _ t334 t337 t338 _ ?side1 ?side2 A6.out).mono ?_); (case side1 => repeat (first | exact (Kd.R_reads' HO336.out).2.2 | (with_reducible refine Kd.C_alloc ?_ _) | (with_reducible refine Kd.C_drewN ?_ _) | (with_reducible refine Kd.C_drew ?_))); (case side2 => exact (Kd.R_reads' HO336.out).2.1); rintro e w12 ⟨v339, rfl, ho0, hb⟩; refine ⟨_, rfl, ?_⟩; have n0_ := Aside0.mk (Kd.R_below (ra_ HO336.out) hb); have n1_ := Aside0.mk (Kd.S_lower (Kd.S_new' ho0 (Kd.R_lt (ra_ HO336.out))) (below_size blw_)); have n2_ := Aside0.mk (below_step blw_ hb); clear HO336; clear HB; have HO336 := n0_; have HO340 := n1_; have HB := n2_; clear n0_ n1_ n2_; (try clear hb); (try clear hb2); (try clear hk); (try clear hi); (try clear ho0)) | ((with_reducible refine gate_callee (f := 22) rfl ?_); refine goesL_ (some 29) rfl rfl Try.func22 (by kernel_rfl) rfl #[.slice A1 l1.length c1] rfl amp_ ?_; (with_reducible refine (laws_toDiagonalS.calls k _ _ l1 t341 _ ?side1 ?side2 A7.out).mono ?_); (case side1 => repeat (first | exact (Kd.C_below HR1.out HB.out) | (with_reducible refine Kd.C_alloc ?_ _) | (with_reducible refine Kd.C_drewN ?_ _) | (with_reducible refine Kd.C_drew ?_))); (case side2 => exact HC1.out); rintro e w13 ⟨v342, rfl, ho0, hb⟩; refine ⟨_, rfl, ?_⟩; have n0_ := Aside0.mk (Kd.R_elder' (ra_ HO336.out) (Kd.R_base ho0) hb); have n1_ := Aside0.mk (Kd.S_elder' (by (with_reducible repeat (first | apply Kd.S_alloc | apply Kd.S_drewN | apply Kd.S_drew)); exact HO340.out) (Kd.R_base ho0) hb); have n2_ := Aside0.mk (Kd.R_lower (Kd.R_new' ho0 (Kd.R_lt (ra_ HO336.out))) (below_size blw_)); have n3_ := Aside0.mk (below_step blw_ hb); clear HO336; clear HO340; clear HB; have HO336 := n0_; have HO340 := n1_; have HO343 := n2_; have HB := n3_; clear n0_ n1_ n2_ n3_; (try clear hb); (try clear hb2); (try clear hk); (try clear hi); (try clear ho0); obtain ⟨Ao14, co14, eo14⟩ := Kd.R_slice HO343.out; subst eo14) | ((with_reducible refine gate_callee (f := 42) rfl ?_); refine goesL_ (some 33) rfl rfl Try.func42 (by kernel_rfl) rfl #[.int .i64 a0, .slice Ao14 t341.length co14] rfl amp_ ?_; (with_reducible refine (impl_AllFlips.calls k a0 _ _ t341 t344 t345 _ ?side1 ?side2 A8.out).mono ?_); (case side1 => repeat (first | exact (Kd.R_reads' HO343.out).2.2 | (with_reducible refine Kd.C_alloc ?_ _) | (with_reducible refine Kd.C_drewN ?_ _) | (with_reducible refine Kd.C_drew ?_))); (case side2 => exact (Kd.R_reads' HO343.out).2.1); rintro e w15 ⟨v346, rfl, ho0, hb⟩; refine ⟨_, rfl, ?_⟩; obtain ⟨N_, hN_⟩ := ss_size hb; have n0_ := Aside0.mk (Kd.R_below (ra_ HO336.out) hb); have n1_ := Aside0.mk (ss_old (by (with_reducible repeat (first | apply Kd.S_alloc | apply Kd.S_drewN | apply Kd.S_drew)); exact HO340.out) hb hN_); have n2_ := Aside0.mk (Kd.R_below (ra_ HO343.out) hb); have n3_ := Aside0.mk (Kd.S_lower (Kd.S_new' (ss_new (Kd.S_new' ho0 (Kd.R_lt (ra_ HO336.out))) hN_) (Kd.R_lt (ra_ HO343.out))) (below_size blw_)); have n4_ := Aside0.mk (below_step blw_ hb); clear HO336; clear HO340; clear HO343; clear HB; have HO336 := n0_; have HO340 := n1_; have HO343 := n2_; have HO347 := n3_; have HB := n4_; clear hN_ n0_ n1_ n2_ n3_ n4_; (try clear hb); (try clear hb2); (try clear hk); (try clear hi); (try clear ho0)))
  (try simp only [Act.put, List.setIfInBounds_toArray, List.set_cons_zero, List.set_cons_succ])
  go_cut [44] (fun v44 wc => ∃ (kq : Nat) (x44_8 : Bool), v44 = .bool x44_8 ∧ Aside0 (laws_FnExactAllFlips.j0 kq a0 l1 t337 t338 t341 t344 t345 x44_8 = some r) ∧ Aside0 (kq ≤ k) ∧ Aside0 (Kd.S (Kd.slice 36 k36) 22 wc w.heap.size (fun k_ => some k_ ≠ ((.slice Ao14 t341.length co14) : Value).ownBlock ∧ k_ < N_) v339 t337) ∧ Aside0 (Kd.R k36 36 wc w.heap.size (fun _ => True) (.slice Ao14 t341.length co14) t341) ∧ Aside0 (Kd.S (Kd.slice 36 k36) 22 wc w.heap.size (fun k_ => N_ ≤ k_ ∧ some k_ ≠ ((.slice Ao14 t341.length co14) : Value).ownBlock) v346 t344) ∧ Aside0 (Below w.heap.size w wc))
  case first =>
   have H := HC9.out
   clear HC9
   replace H := Option.bind_eq_some_iff.mp H
   obtain ⟨t348, A160, H⟩ := H
   replace H : (if t348 = true then (laws_FnExactAllFlips.j0 k a0 l1 t337 t338 t341 t344 t345 (t345 != t338)) else (laws_FnExactAllFlips.j0 k a0 l1 t337 t338 t341 t344 t345 true)) = some r := H
   have A16 := Aside0.mk A160
   clear A160
   by_cases c17 : t348 = true
   ·subst c17
    have H1 : (laws_FnExactAllFlips.j0 k a0 l1 t337 t338 t341 t344 t345 (t345 != t338)) = some r := by rw [if_pos rfl] at H; exact H
    clear H
    have H := H1
    clear H1
    have H' := Aside0.mk H
    clear H
    obtain ⟨Ao18, co18, eo18⟩ := Kd.S_slice HO347.out
    subst eo18
    obtain ⟨Ao19, co19, eo19⟩ := Kd.S_slice HO340.out
    subst eo19
    go_wp2_with (first | ((with_reducible refine gate_callee (f := 43) rfl ?_); refine goesL_ (some 38) rfl rfl Try.func43 (by kernel_rfl) rfl #[.slice Ao18 t344.length co18, .slice Ao19 t337.length co19] rfl amp_ ?_; (with_reducible refine (laws_eqDiagonalSS.calls k _ _ t344 _ _ t337 true _ ?side1 ?side2 ?side3 ?side4 A16.out).mono ?_); (case side1 => repeat (first | exact (Kd.S_reads' HO347.out).2.2 | (with_reducible refine Kd.C_alloc ?_ _) | (with_reducible refine Kd.C_drewN ?_ _) | (with_reducible refine Kd.C_drew ?_))); (case side2 => exact (Kd.S_reads' HO347.out).2.1); (case side3 => repeat (first | exact (Kd.S_reads' HO340.out).2.2 | (with_reducible refine Kd.C_alloc ?_ _) | (with_reducible refine Kd.C_drewN ?_ _) | (with_reducible refine Kd.C_drew ?_))); (case side4 => exact (Kd.S_reads' HO340.out).2.1); rintro e w20 ⟨rfl, hb⟩; refine ⟨_, rfl, ?_⟩; have n0_ := Aside0.mk (Kd.R_below (ra_ HO336.out) hb); have n1_ := Aside0.mk (Kd.S_below (by (with_reducible repeat (first | apply Kd.S_alloc | apply Kd.S_drewN | apply Kd.S_drew)); exact HO340.out) hb); have n2_ := Aside0.mk (Kd.R_below (ra_ HO343.out) hb); have n3_ := Aside0.mk (Kd.S_below (by (with_reducible repeat (first | apply Kd.S_alloc | apply Kd.S_drewN | apply Kd.S_drew)); exact HO347.out) hb); have n4_ := Aside0.mk (below_step blw_ hb); clear HO336; clear HO340; clear HO343; clear HO347; clear HB; have HO336 := n0_; have HO340 := n1_; have HO343 := n2_; have HO347 := n3_; have HB := n4_; clear n0_ n1_ n2_ n3_ n4_; (try clear hb); (try clear hb2); (try clear hk); (try clear hi)))
    go_meet
    case rel => exact ⟨_, ((t345 != t338)), (by first | rfl | (simp; done) | (simp [*]; done)), H', ⟨by first | omega | exact Nat.le_refl _⟩, ⟨by (with_reducible repeat (first | apply Kd.S_alloc | apply Kd.S_drewN | apply Kd.S_drew)); exact Kd.S_mono HO340.out (fun _ hk => ⟨hk.1.2, hk.2⟩)⟩, ⟨by (with_reducible repeat (first | apply Kd.R_alloc | apply Kd.R_drewN | apply Kd.R_drew)); exact Kd.R_mono HO343.out (fun _ hk => trivial)⟩, ⟨by (with_reducible repeat (first | apply Kd.S_alloc | apply Kd.S_drewN | apply Kd.S_drew)); exact Kd.S_mono HO347.out (fun _ hk => ⟨hk.1.2, hk.2⟩)⟩, ⟨by repeat (first | (with_reducible first | exact HB.out | apply below_alloc | apply pw_below_drewN | apply below_drew1) | exact HB.out)⟩⟩
   ·replace c17 := Bool.eq_false_iff.mpr c17
    subst c17
    have H1 : (laws_FnExactAllFlips.j0 k a0 l1 t337 t338 t341 t344 t345 true) = some r := by rw [if_neg (show ¬ (false = true) by decide)] at H; exact H
    clear H
    have H := H1
    clear H1
    have H' := Aside0.mk H
    clear H
    obtain ⟨Ao21, co21, eo21⟩ := Kd.S_slice HO347.out
    subst eo21
    obtain ⟨Ao22, co22, eo22⟩ := Kd.S_slice HO340.out
    subst eo22
    go_wp2_with (first | ((with_reducible refine gate_callee (f := 43) rfl ?_); refine goesL_ (some 38) rfl rfl Try.func43 (by kernel_rfl) rfl #[.slice Ao21 t344.length co21, .slice Ao22 t337.length co22] rfl amp_ ?_; (with_reducible refine (laws_eqDiagonalSS.calls k _ _ t344 _ _ t337 false _ ?side1 ?side2 ?side3 ?side4 A16.out).mono ?_); (case side1 => repeat (first | exact (Kd.S_reads' HO347.out).2.2 | (with_reducible refine Kd.C_alloc ?_ _) | (with_reducible refine Kd.C_drewN ?_ _) | (with_reducible refine Kd.C_drew ?_))); (case side2 => exact (Kd.S_reads' HO347.out).2.1); (case side3 => repeat (first | exact (Kd.S_reads' HO340.out).2.2 | (with_reducible refine Kd.C_alloc ?_ _) | (with_reducible refine Kd.C_drewN ?_ _) | (with_reducible refine Kd.C_drew ?_))); (case side4 => exact (Kd.S_reads' HO340.out).2.1); rintro e w23 ⟨rfl, hb⟩; refine ⟨_, rfl, ?_⟩; have n0_ := Aside0.mk (Kd.R_below (ra_ HO336.out) hb); have n1_ := Aside0.mk (Kd.S_below (by (with_reducible repeat (first | apply Kd.S_alloc | apply Kd.S_drewN | apply Kd.S_drew)); exact HO340.out) hb); have n2_ := Aside0.mk (Kd.R_below (ra_ HO343.out) hb); have n3_ := Aside0.mk (Kd.S_below (by (with_reducible repeat (first | apply Kd.S_alloc | apply Kd.S_drewN | apply Kd.S_drew)); exact HO347.out) hb); have n4_ := Aside0.mk (below_step blw_ hb); clear HO336; clear HO340; clear HO343; clear HO347; clear HB; have HO336 := n0_; have HO340 := n1_; have HO343 := n2_; have HO347 := n3_; have HB := n4_; clear n0_ n1_ n2_ n3_ n4_; (try clear hb); (try clear hb2); (try clear hk); (try clear hi)))
    go_meet
    case rel => exact ⟨_, (true), (by first | rfl | (simp; done) | (simp [*]; done)), H', ⟨by first | omega | exact Nat.le_refl _⟩, ⟨by (with_reducible repeat (first | apply Kd.S_alloc | apply Kd.S_drewN | apply Kd.S_drew)); exact Kd.S_mono HO340.out (fun _ hk => ⟨hk.1.2, hk.2⟩)⟩, ⟨by (with_reducible repeat (first | apply Kd.R_alloc | apply Kd.R_drewN | apply Kd.R_drew)); exact Kd.R_mono HO343.out (fun _ hk => trivial)⟩, ⟨by (with_reducible repeat (first | apply Kd.S_alloc | apply Kd.S_drewN | apply Kd.S_drew)); exact Kd.S_mono HO347.out (fun _ hk => ⟨hk.1.2, hk.2⟩)⟩, ⟨by repeat (first | (with_reducible first | exact HB.out | apply below_alloc | apply pw_below_drewN | apply below_drew1) | exact HB.out)⟩⟩
  case rest =>
   clear HC9
   try clear c1
   try clear c2
   try clear p2
   try clear c4
   try clear c4b0
   try clear c11
   try clear c17
   try clear c20
   try clear c22
   obtain ⟨kq, x44_8, rfl, HA, HJ8, HO_6, HO_8, HO_9, HB⟩ := hcut
   cases kq with
   | zero => exact absurd HA.out (by simp [laws_FnExactAllFlips.j0])
   | succ kj8 =>
    have H := HA.out
    clear HA
    simp only [laws_FnExactAllFlips.j0] at H
    by_cases c24 : x44_8 = true
    ·subst c24
     have H1 : (some false) = some r := by rw [if_pos rfl] at H; exact H
     clear H
     have H := H1
     clear H1
     exact absurd (H.trans (congrArg some htrue.out)) (by decide)
    ·replace c24 := Bool.eq_false_iff.mpr c24
     subst c24
     have H1 : ((laws_toDiagonalS.f kj8 l1).bind fun t349 => ((laws_eqDiagonalS.f kj8 t341 t349).bind fun t352 => (if t352 = true then ((laws_markDiagonalS.f kj8 t341 1).bind fun bt353 => (if bt353.1 < 0 then (laws_FnExactAllFlips.j1 kj8 a0 l1 t337 t338 t344 true) else ((laws_eqDiagonalSS.f kj8 t344 t337).bind fun t355 => (if t355 = true then (laws_FnExactAllFlips.j1 kj8 a0 l1 t337 t338 t344 (t345 != t338)) else (laws_FnExactAllFlips.j1 kj8 a0 l1 t337 t338 t344 true))))) else (some false)))) = some r := by rw [if_neg (show ¬ (false = true) by decide)] at H; exact H
     clear H
     have H := H1
     clear H1
     replace H := Option.bind_eq_some_iff.mp H
     obtain ⟨t349, A250, H⟩ := H
     replace H : ((laws_eqDiagonalS.f kj8 t341 t349).bind fun t352 => (if t352 = true then ((laws_markDiagonalS.f kj8 t341 1).bind fun bt353 => (if bt353.1 < 0 then (laws_FnExactAllFlips.j1 kj8 a0 l1 t337 t338 t344 true) else ((laws_eqDiagonalSS.f kj8 t344 t337).bind fun t355 => (if t355 = true then (laws_FnExactAllFlips.j1 kj8 a0 l1 t337 t338 t344 (t345 != t338)) else (laws_FnExactAllFlips.j1 kj8 a0 l1 t337 t338 t344 true))))) else (some false))) = some r := H
     have A25 := Aside0.mk A250
     clear A250
     replace H := Option.bind_eq_some_iff.mp H
     obtain ⟨t352, A260, H⟩ := H
     replace H : (if t352 = true then ((laws_markDiagonalS.f kj8 t341 1).bind fun bt353 => (if bt353.1 < 0 then (laws_FnExactAllFlips.j1 kj8 a0 l1 t337 t338 t344 true) else ((laws_eqDiagonalSS.f kj8 t344 t337).bind fun t355 => (if t355 = true then (laws_FnExactAllFlips.j1 kj8 a0 l1 t337 t338 t344 (t345 != t338)) else (laws_FnExactAllFlips.j1 kj8 a0 l1 t337 t338 t344 true))))) else (some false)) = some r := H
     have A26 := Aside0.mk A260
     clear A260
     by_cases c27 : t352 = true
     ·subst c27
      have H1 : ((laws_markDiagonalS.f kj8 t341 1).bind fun bt353 => (if bt353.1 < 0 then (laws_FnExactAllFlips.j1 kj8 a0 l1 t337 t338 t344 true) else ((laws_eqDiagonalSS.f kj8 t344 t337).bind fun t355 => (if t355 = true then (laws_FnExactAllFlips.j1 kj8 a0 l1 t337 t338 t344 (t345 != t338)) else (laws_FnExactAllFlips.j1 kj8 a0 l1 t337 t338 t344 true))))) = some r := by rw [if_pos rfl] at H; exact H
      clear H
      have H := H1
      clear H1
      replace H := Option.bind_eq_some_iff.mp H
      obtain ⟨⟨t353, t354⟩, A280, H⟩ := H
      replace H : (if t353 < 0 then (laws_FnExactAllFlips.j1 kj8 a0 l1 t337 t338 t344 true) else ((laws_eqDiagonalSS.f kj8 t344 t337).bind fun t355 => (if t355 = true then (laws_FnExactAllFlips.j1 kj8 a0 l1 t337 t338 t344 (t345 != t338)) else (laws_FnExactAllFlips.j1 kj8 a0 l1 t337 t338 t344 true)))) = some r := H
      have A28 := Aside0.mk A280
      clear A280
      have HC29 := Aside0.mk H
      clear H
      go_upto_region 14 with (first | ((with_reducible refine gate_callee (f := 22) rfl ?_); refine goesL_ (some 47) rfl rfl Try.func22 (by kernel_rfl) rfl #[.slice A1 l1.length c1] rfl amp_ ?_; (with_reducible refine (laws_toDiagonalS.calls kj8 _ _ l1 t349 _ ?side1 ?side2 A25.out).mono ?_); (case side1 => repeat (first | exact (Kd.C_below HR1.out HB.out) | (with_reducible refine Kd.C_alloc ?_ _) | (with_reducible refine Kd.C_drewN ?_ _) | (with_reducible refine Kd.C_drew ?_))); (case side2 => exact HC1.out); rintro e w30 ⟨v350, rfl, ho0, hb⟩; refine ⟨_, rfl, ?_⟩; have n0_ := Aside0.mk (Kd.S_elder' (by (with_reducible repeat (first | apply Kd.S_alloc | apply Kd.S_drewN | apply Kd.S_drew)); exact HO_6.out) (Kd.R_base ho0) hb); have n1_ := Aside0.mk (Kd.R_elder' (ra_ HO_8.out) (Kd.R_base ho0) hb); have n2_ := Aside0.mk (Kd.S_elder' (by (with_reducible repeat (first | apply Kd.S_alloc | apply Kd.S_drewN | apply Kd.S_drew)); exact HO_9.out) (Kd.R_base ho0) hb); have n3_ := Aside0.mk (Kd.R_lower (Kd.R_new' ho0 (Kd.R_lt (ra_ HO_8.out))) (below_size blw_)); have n4_ := Aside0.mk (below_step blw_ hb); clear HO_6; clear HO_8; clear HO_9; clear HB; have HO_6 := n0_; have HO_8 := n1_; have HO_9 := n2_; have HO351 := n3_; have HB := n4_; clear n0_ n1_ n2_ n3_ n4_; (try clear hb); (try clear hb2); (try clear hk); (try clear hi); (try clear ho0); obtain ⟨Ao31, co31, eo31⟩ := Kd.R_slice HO351.out; subst eo31) | ((with_reducible refine gate_callee (f := 17) rfl ?_); refine goesL_ (some 48) rfl rfl Try.func17 (by kernel_rfl) rfl #[.slice Ao14 t341.length co14, .slice Ao31 t349.length co31] rfl amp_ ?_; (with_reducible refine (laws_eqDiagonalS.calls kj8 _ _ t341 _ _ t349 true _ ?side1 ?side2 ?side3 ?side4 A26.out).mono ?_); (case side1 => repeat (first | exact (Kd.R_reads' HO_8.out).2.2 | (with_reducible refine Kd.C_alloc ?_ _) | (with_reducible refine Kd.C_drewN ?_ _) | (with_reducible refine Kd.C_drew ?_))); (case side2 => exact (Kd.R_reads' HO_8.out).2.1); (case side3 => repeat (first | exact (Kd.R_reads' HO351.out).2.2 | (with_reducible refine Kd.C_alloc ?_ _) | (with_reducible refine Kd.C_drewN ?_ _) | (with_reducible refine Kd.C_drew ?_))); (case side4 => exact (Kd.R_reads' HO351.out).2.1); rintro e w32 ⟨rfl, hb⟩; refine ⟨_, rfl, ?_⟩; have n0_ := Aside0.mk (Kd.S_below (by (with_reducible repeat (first | apply Kd.S_alloc | apply Kd.S_drewN | apply Kd.S_drew)); exact HO_6.out) hb); have n1_ := Aside0.mk (Kd.R_below (ra_ HO_8.out) hb); have n2_ := Aside0.mk (Kd.S_below (by (with_reducible repeat (first | apply Kd.S_alloc | apply Kd.S_drewN | apply Kd.S_drew)); exact HO_9.out) hb); have n3_ := Aside0.mk (Kd.R_below (ra_ HO351.out) hb); have n4_ := Aside0.mk (below_step blw_ hb); clear HO_6; clear HO_8; clear HO_9; clear HO351; clear HB; have HO_6 := n0_; have HO_8 := n1_; have HO_9 := n2_; have HO351 := n3_; have HB := n4_; clear n0_ n1_ n2_ n3_ n4_; (try clear hb); (try clear hb2); (try clear hk); (try clear hi)) | ((with_reducible refine gate_callee (f := 18) rfl ?_); refine goesL_ (some 52) rfl rfl Try.func18 (by kernel_rfl) rfl #[.slice Ao14 t341.length co14, .int .i64 1] rfl amp_ ?_; (with_reducible refine (laws_markDiagonalS.calls kj8 (fun k_ => some k_ = (.slice Ao14 t341.length co14 : Value).ownBlock) (.slice Ao14 t341.length co14) t341 1 t353 t354 w _ ?side1 ?side2 A28.out).mono ?_); (case side1 => repeat (first | (with_reducible first | exact HB.out | apply below_alloc | apply pw_below_drewN | apply below_drew1) | exact HB.out)); (case side2 => exact Kd.R_tight rfl HO_8.out); rintro e w33 ⟨rfl, hy0, hb, hkp⟩; refine ⟨_, rfl, ?_⟩; have n0_ := Aside0.mk (Kd.S_mono (ok' := fun k_ => some k_ ≠ (.slice Ao14 t341.length co14 : Value).ownBlock ∧ k_ < N_ ∧ some k_ ≠ (.slice Ao31 t349.length co31 : Value).ownBlock) (Kd.S_keptB (HO_6.out) hkp (fun k_ hk_ hs_ => (hk_.1.1) hs_)) (fun k_ hk_ => ⟨hk_.1.1.1, hk_.1.1.2, hk_.1.2⟩)); have n1_ := Aside0.mk (Kd.R_reok rfl hy0 (fun k_ e_ => HO_8.out.1 k_ e_)); have n2_ := Aside0.mk (Kd.S_mono (ok' := fun k_ => N_ ≤ k_ ∧ some k_ ≠ (.slice Ao14 t341.length co14 : Value).ownBlock ∧ some k_ ≠ (.slice Ao31 t349.length co31 : Value).ownBlock) (Kd.S_keptB (HO_9.out) hkp (fun k_ hk_ hs_ => (hk_.1.2) hs_)) (fun k_ hk_ => ⟨hk_.1.1.1, hk_.1.1.2, hk_.1.2⟩)); have n3_ := Aside0.mk (Kd.R_mono (ok' := fun k_ => some k_ ≠ (.slice Ao14 t341.length co14 : Value).ownBlock) (Kd.R_keptB (HO351.out) hkp (fun k_ hk_ hs_ => (hk_.2) hs_)) (fun k_ hk_ => hk_.1.2)); have n4_ := Aside0.mk (hb); clear HO_6; clear HO_8; clear HO_9; clear HO351; clear HB; have HO_6 := n0_; have HO_8 := n1_; have HO_9 := n2_; have HO351 := n3_; have HB := n4_; clear n0_ n1_ n2_ n3_ n4_; (try clear hb); (try clear hkp); (try clear hy0)))
      (try simp only [Act.put, List.setIfInBounds_toArray, List.set_cons_zero, List.set_cons_succ])
      go_cut [65] (fun v65 wc => ∃ (kq : Nat) (x65_28 : Bool), v65 = .bool x65_28 ∧ Aside0 (laws_FnExactAllFlips.j1 kq a0 l1 t337 t338 t344 x65_28 = some r) ∧ Aside0 (kq ≤ kj8) ∧ Aside0 (Kd.S (Kd.slice 36 k36) 22 wc w.heap.size (fun k_ => k_ < N_) v339 t337) ∧ Aside0 (Kd.S (Kd.slice 36 k36) 22 wc w.heap.size (fun k_ => N_ ≤ k_) v346 t344) ∧ Aside0 (Below w.heap.size w wc))
      case first =>
       have H := HC29.out
       clear HC29
       by_cases c34 : t353 < 0
       ·rw [if_pos c34] at H
        have c34b0 : decide (t353 < 0) = true := decide_eq_true c34
        clear c34
        (first | rw [c34b0] | (simp only [i64_w, i32_w]; rw [c34b0]) | skip)
        have H' := Aside0.mk H
        clear H
        go_wp2
        go_meet
        case rel => exact ⟨_, (true), (by first | rfl | (simp; done) | (simp [*]; done)), H', ⟨by have := HJ8.out; first | omega | exact Nat.le_refl _⟩, ⟨by (with_reducible repeat (first | apply Kd.S_alloc | apply Kd.S_drewN | apply Kd.S_drew)); exact Kd.S_mono HO_6.out (fun _ hk => hk.2.1)⟩, ⟨by (with_reducible repeat (first | apply Kd.S_alloc | apply Kd.S_drewN | apply Kd.S_drew)); exact Kd.S_mono HO_9.out (fun _ hk => hk.1)⟩, ⟨by repeat (first | (with_reducible first | exact HB.out | apply below_alloc | apply pw_below_drewN | apply below_drew1) | exact HB.out)⟩⟩
       ·rw [if_neg c34] at H
        have c34b0 : decide (t353 < 0) = false := decide_eq_false c34
        clear c34
        (first | rw [c34b0] | (simp only [i64_w, i32_w]; rw [c34b0]) | skip)
        replace H := Option.bind_eq_some_iff.mp H
        obtain ⟨t355, A350, H⟩ := H
        replace H : (if t355 = true then (laws_FnExactAllFlips.j1 kj8 a0 l1 t337 t338 t344 (t345 != t338)) else (laws_FnExactAllFlips.j1 kj8 a0 l1 t337 t338 t344 true)) = some r := H
        have A35 := Aside0.mk A350
        clear A350
        by_cases c36 : t355 = true
        ·subst c36
         have H1 : (laws_FnExactAllFlips.j1 kj8 a0 l1 t337 t338 t344 (t345 != t338)) = some r := by rw [if_pos rfl] at H; exact H
         clear H
         have H := H1
         clear H1
         have H' := Aside0.mk H
         clear H
         obtain ⟨Ao37, co37, eo37⟩ := Kd.S_slice HO_9.out
         subst eo37
         obtain ⟨Ao38, co38, eo38⟩ := Kd.S_slice HO_6.out
         subst eo38
         go_wp2_with (first | (go_at_call 43; (with_reducible refine (laws_eqDiagonalSS.calls kj8 _ _ t344 _ _ t337 true _ ?side1 ?side2 ?side3 ?side4 A35.out).mono ?_); (case side1 => repeat (first | exact (Kd.S_reads' HO_9.out).2.2 | (with_reducible refine Kd.C_alloc ?_ _) | (with_reducible refine Kd.C_drewN ?_ _) | (with_reducible refine Kd.C_drew ?_))); (case side2 => exact (Kd.S_reads' HO_9.out).2.1); (case side3 => repeat (first | exact (Kd.S_reads' HO_6.out).2.2 | (with_reducible refine Kd.C_alloc ?_ _) | (with_reducible refine Kd.C_drewN ?_ _) | (with_reducible refine Kd.C_drew ?_))); (case side4 => exact (Kd.S_reads' HO_6.out).2.1); rintro e w39 ⟨rfl, hb⟩; have n0_ := Aside0.mk (Kd.S_below (by (with_reducible repeat (first | apply Kd.S_alloc | apply Kd.S_drewN | apply Kd.S_drew)); exact HO_6.out) hb); have n1_ := Aside0.mk (Kd.R_below (ra_ HO_8.out) hb); have n2_ := Aside0.mk (Kd.S_below (by (with_reducible repeat (first | apply Kd.S_alloc | apply Kd.S_drewN | apply Kd.S_drew)); exact HO_9.out) hb); have n3_ := Aside0.mk (Kd.R_below (ra_ HO351.out) hb); have n4_ := Aside0.mk (below_step blw_ hb); clear HO_6; clear HO_8; clear HO_9; clear HO351; clear HB; have HO_6 := n0_; have HO_8 := n1_; have HO_9 := n2_; have HO351 := n3_; have HB := n4_; clear n0_ n1_ n2_ n3_ n4_; (try clear hb); (try clear hb2); (try clear hk); (try clear hi)))
         go_meet
         case rel => exact ⟨_, ((t345 != t338)), (by first | rfl | (simp; done) | (simp [*]; done)), H', ⟨by have := HJ8.out; first | omega | exact Nat.le_refl _⟩, ⟨by (with_reducible repeat (first | apply Kd.S_alloc | apply Kd.S_drewN | apply Kd.S_drew)); exact Kd.S_mono HO_6.out (fun _ hk => hk.2.1)⟩, ⟨by (with_reducible repeat (first | apply Kd.S_alloc | apply Kd.S_drewN | apply Kd.S_drew)); exact Kd.S_mono HO_9.out (fun _ hk => hk.1)⟩, ⟨by repeat (first | (with_reducible first | exact HB.out | apply below_alloc | apply pw_below_drewN | apply below_drew1) | exact HB.out)⟩⟩
        ·replace c36 := Bool.eq_false_iff.mpr c36
         subst c36
         have H1 : (laws_FnExactAllFlips.j1 kj8 a0 l1 t337 t338 t344 true) = some r := by rw [if_neg (show ¬ (false = true) by decide)] at H; exact H
         clear H
         have H := H1
         clear H1
         have H' := Aside0.mk H
         clear H
         obtain ⟨Ao40, co40, eo40⟩ := Kd.S_slice HO_9.out
         subst eo40
         obtain ⟨Ao41, co41, eo41⟩ := Kd.S_slice HO_6.out
         subst eo41
         go_wp2_with (first | (go_at_call 43; (with_reducible refine (laws_eqDiagonalSS.calls kj8 _ _ t344 _ _ t337 false _ ?side1 ?side2 ?side3 ?side4 A35.out).mono ?_); (case side1 => repeat (first | exact (Kd.S_reads' HO_9.out).2.2 | (with_reducible refine Kd.C_alloc ?_ _) | (with_reducible refine Kd.C_drewN ?_ _) | (with_reducible refine Kd.C_drew ?_))); (case side2 => exact (Kd.S_reads' HO_9.out).2.1); (case side3 => repeat (first | exact (Kd.S_reads' HO_6.out).2.2 | (with_reducible refine Kd.C_alloc ?_ _) | (with_reducible refine Kd.C_drewN ?_ _) | (with_reducible refine Kd.C_drew ?_))); (case side4 => exact (Kd.S_reads' HO_6.out).2.1); rintro e w42 ⟨rfl, hb⟩; have n0_ := Aside0.mk (Kd.S_below (by (with_reducible repeat (first | apply Kd.S_alloc | apply Kd.S_drewN | apply Kd.S_drew)); exact HO_6.out) hb); have n1_ := Aside0.mk (Kd.R_below (ra_ HO_8.out) hb); have n2_ := Aside0.mk (Kd.S_below (by (with_reducible repeat (first | apply Kd.S_alloc | apply Kd.S_drewN | apply Kd.S_drew)); exact HO_9.out) hb); have n3_ := Aside0.mk (Kd.R_below (ra_ HO351.out) hb); have n4_ := Aside0.mk (below_step blw_ hb); clear HO_6; clear HO_8; clear HO_9; clear HO351; clear HB; have HO_6 := n0_; have HO_8 := n1_; have HO_9 := n2_; have HO351 := n3_; have HB := n4_; clear n0_ n1_ n2_ n3_ n4_; (try clear hb); (try clear hb2); (try clear hk); (try clear hi)))
         go_meet
         case rel => exact ⟨_, (true), (by first | rfl | (simp; done) | (simp [*]; done)), H', ⟨by have := HJ8.out; first | omega | exact Nat.le_refl _⟩, ⟨by (with_reducible repeat (first | apply Kd.S_alloc | apply Kd.S_drewN | apply Kd.S_drew)); exact Kd.S_mono HO_6.out (fun _ hk => hk.2.1)⟩, ⟨by (with_reducible repeat (first | apply Kd.S_alloc | apply Kd.S_drewN | apply Kd.S_drew)); exact Kd.S_mono HO_9.out (fun _ hk => hk.1)⟩, ⟨by repeat (first | (with_reducible first | exact HB.out | apply below_alloc | apply pw_below_drewN | apply below_drew1) | exact HB.out)⟩⟩
      case rest =>
       clear HC29
       try clear c1
       try clear c2
       try clear p2
       try clear c3
       try clear c4
       try clear c4b0
       try clear c11
       try clear c17
       try clear c18
       try clear c20
       try clear c22
       try clear c24
       try clear c27
       try clear c34
       try clear c34b0
       try clear c36
       try clear c41
       try clear c42
       try clear p2
       obtain ⟨kq, x65_28, rfl, HA, HJ28, HO_6, HO_9, HB⟩ := hcut
       cases kq with
       | zero => exact absurd HA.out (by simp [laws_FnExactAllFlips.j1])
       | succ kj28 =>
        have H := HA.out
        clear HA
        simp only [laws_FnExactAllFlips.j1] at H
        by_cases c43 : x65_28 = true
        ·subst c43
         have H1 : (some false) = some r := by rw [if_pos rfl] at H; exact H
         clear H
         have H := H1
         clear H1
         exact absurd (H.trans (congrArg some htrue.out)) (by decide)
        ·replace c43 := Bool.eq_false_iff.mpr c43
         subst c43
         have H1 : ((laws_markDiagonalSS.f kj28 t344 1).bind fun bt356 => ((laws_heldDiagonalSS.f kj28 bt356.2 1).bind fun t358 => (if t358 < 0 then (some false) else (if t358 = bt356.1 then ((laws_toDiagonalS.f kj28 l1).bind fun t359 => ((impl_AllFlips.f kj28 a0 t359).bind fun bt362 => ((laws_eqDiagonalSS.f kj28 bt362.1 t337).bind fun t366 => (if t366 = true then (laws_FnExactAllFlips.j2 kj28 bt356.2 bt356.1 (bt362.2 != t338)) else (laws_FnExactAllFlips.j2 kj28 bt356.2 bt356.1 true))))) else (some false))))) = some r := by rw [if_neg (show ¬ (false = true) by decide)] at H; exact H
         clear H
         have H := H1
         clear H1
         replace H := Option.bind_eq_some_iff.mp H
         obtain ⟨⟨t356, t357⟩, A440, H⟩ := H
         replace H : ((laws_heldDiagonalSS.f kj28 t357 1).bind fun t358 => (if t358 < 0 then (some false) else (if t358 = t356 then ((laws_toDiagonalS.f kj28 l1).bind fun t359 => ((impl_AllFlips.f kj28 a0 t359).bind fun bt362 => ((laws_eqDiagonalSS.f kj28 bt362.1 t337).bind fun t366 => (if t366 = true then (laws_FnExactAllFlips.j2 kj28 t357 t356 (bt362.2 != t338)) else (laws_FnExactAllFlips.j2 kj28 t357 t356 true))))) else (some false)))) = some r := H
         have A44 := Aside0.mk A440
         clear A440
         replace H := Option.bind_eq_some_iff.mp H
         obtain ⟨t358, A450, H⟩ := H
         replace H : (if t358 < 0 then (some false) else (if t358 = t356 then ((laws_toDiagonalS.f kj28 l1).bind fun t359 => ((impl_AllFlips.f kj28 a0 t359).bind fun bt362 => ((laws_eqDiagonalSS.f kj28 bt362.1 t337).bind fun t366 => (if t366 = true then (laws_FnExactAllFlips.j2 kj28 t357 t356 (bt362.2 != t338)) else (laws_FnExactAllFlips.j2 kj28 t357 t356 true))))) else (some false))) = some r := H
         have A45 := Aside0.mk A450
         clear A450
         by_cases c46 : t358 < 0
         ·rw [if_pos c46] at H
          have c46b0 : decide (t358 < 0) = true := decide_eq_true c46
          clear c46
          exact absurd (H.trans (congrArg some htrue.out)) (by decide)
         ·rw [if_neg c46] at H
          have c46b0 : decide (t358 < 0) = false := decide_eq_false c46
          clear c46
          by_cases c47 : t358 = t356
          ·rw [if_pos c47] at H
           have c47b0 : (t358 == t356) = true := beq_iff_eq.mpr c47
           have c47b1 : (t358 != t356) = false := bne_eq_false_iff_eq.mpr c47
           clear c47
           replace H := Option.bind_eq_some_iff.mp H
           obtain ⟨t359, A480, H⟩ := H
           replace H : ((impl_AllFlips.f kj28 a0 t359).bind fun bt362 => ((laws_eqDiagonalSS.f kj28 bt362.1 t337).bind fun t366 => (if t366 = true then (laws_FnExactAllFlips.j2 kj28 t357 t356 (bt362.2 != t338)) else (laws_FnExactAllFlips.j2 kj28 t357 t356 true)))) = some r := H
           have A48 := Aside0.mk A480
           clear A480
           replace H := Option.bind_eq_some_iff.mp H
           obtain ⟨⟨t362, t363⟩, A490, H⟩ := H
           replace H : ((laws_eqDiagonalSS.f kj28 t362 t337).bind fun t366 => (if t366 = true then (laws_FnExactAllFlips.j2 kj28 t357 t356 (t363 != t338)) else (laws_FnExactAllFlips.j2 kj28 t357 t356 true))) = some r := H
           have A49 := Aside0.mk A490
           clear A490
           have HC50 := Aside0.mk H
           clear H
           obtain ⟨Ao51, co51, eo51⟩ := Kd.S_slice HO_9.out
           subst eo51
           go_upto_region 25 with (first | ((with_reducible refine gate_callee (f := 44) rfl ?_); refine goesL_ (some 68) rfl rfl Try.func44 (by kernel_rfl) rfl #[.slice Ao51 t344.length co51, .int .i64 1] rfl amp_ ?_; (with_reducible refine (laws_markDiagonalSS.calls kj28 (fun k_ => N_ ≤ k_) (.slice Ao51 t344.length co51) t344 1 t356 t357 w _ ?side1 ?side2 A44.out).mono ?_); (case side1 => repeat (first | (with_reducible first | exact HB.out | apply below_alloc | apply pw_below_drewN | apply below_drew1) | exact HB.out)); (case side2 => exact HO_9.out); rintro e w52 ⟨rfl, hy0, hb, hkp⟩; refine ⟨_, rfl, ?_⟩; have n0_ := Aside0.mk (Kd.S_mono (ok' := fun k_ => k_ < N_) (Kd.S_keptB (HO_6.out) hkp (fun k_ hk_ hs_ => absurd hs_ (Nat.not_le_of_lt hk_))) (fun k_ hk_ => hk_.1)); have n1_ := Aside0.mk hy0; have n2_ := Aside0.mk (hb); clear HO_6; clear HO_9; clear HB; have HO_6 := n0_; have HO_9 := n1_; have HB := n2_; clear n0_ n1_ n2_; (try clear hb); (try clear hkp); (try clear hy0)) | ((with_reducible refine gate_callee (f := 45) rfl ?_); refine goesL_ (some 71) rfl rfl Try.func45 (by kernel_rfl) rfl #[.slice Ao51 t357.length co51, .int .i64 1] rfl (by (try simp only [List.map_toArray, List.map_cons, List.map_nil]); first | done | (rw [show t357.length = t344.length from (Kd.S_reads' HO_9.out).1.symm] <;> rfl) | rfl | (simp only [List.length_drop, List.length_take]; rfl)) ?_; (with_reducible refine (laws_heldDiagonalSS.calls kj28 _ _ t357 1 t358 _ ?side1 ?side2 A45.out).mono ?_); (case side1 => repeat (first | exact (Kd.S_reads' HO_9.out).2.2 | (with_reducible refine Kd.C_alloc ?_ _) | (with_reducible refine Kd.C_drewN ?_ _) | (with_reducible refine Kd.C_drew ?_))); (case side2 => rw [show t357.length = t344.length from (Kd.S_reads' HO_9.out).1.symm]; exact (Kd.S_reads' HO_9.out).2.1); rintro e w' ⟨rfl, ⟨nd, rfl⟩⟩; refine ⟨_, rfl, ?_⟩) | ((with_reducible refine gate_callee (f := 22) rfl ?_); refine goesL_ (some 80) rfl rfl Try.func22 (by kernel_rfl) rfl #[.slice A1 l1.length c1] rfl amp_ ?_; (with_reducible refine (laws_toDiagonalS.calls kj28 _ _ l1 t359 _ ?side1 ?side2 A48.out).mono ?_); (case side1 => repeat (first | exact (Kd.C_below HR1.out blw_) | (with_reducible refine Kd.C_alloc ?_ _) | (with_reducible refine Kd.C_drewN ?_ _) | (with_reducible refine Kd.C_drew ?_))); (case side2 => exact HC1.out); rintro e w53 ⟨v360, rfl, ho0, hb⟩; refine ⟨_, rfl, ?_⟩; have n0_ := Aside0.mk (Kd.S_elder' (by (with_reducible repeat (first | apply Kd.S_alloc | apply Kd.S_drewN | apply Kd.S_drew)); exact HO_6.out) (Kd.R_base ho0) hb); have n1_ := Aside0.mk (Kd.S_elder' (by (with_reducible repeat (first | apply Kd.S_alloc | apply Kd.S_drewN | apply Kd.S_drew)); exact HO_9.out) (Kd.R_base ho0) hb); have n2_ := Aside0.mk (Kd.R_lower ho0 (below_size blw_)); have n3_ := Aside0.mk (below_step blw_ hb); clear HO_6; clear HO_9; clear HB; have HO_6 := n0_; have HO_9 := n1_; have HO361 := n2_; have HB := n3_; clear n0_ n1_ n2_ n3_; (try clear hb); (try clear hb2); (try clear hk); (try clear hi); (try clear ho0); obtain ⟨Ao54, co54, eo54⟩ := Kd.R_slice HO361.out; subst eo54) | ((with_reducible refine gate_callee (f := 42) rfl ?_); refine goesL_ (some 81) rfl rfl Try.func42 (by kernel_rfl) rfl #[.int .i64 a0, .slice Ao54 t359.length co54] rfl amp_ ?_; (with_reducible refine (impl_AllFlips.calls kj28 a0 _ _ t359 t362 t363 _ ?side1 ?side2 A49.out).mono ?_); (case side1 => repeat (first | exact (Kd.R_reads' HO361.out).2.2 | (with_reducible refine Kd.C_alloc ?_ _) | (with_reducible refine Kd.C_drewN ?_ _) | (with_reducible refine Kd.C_drew ?_))); (case side2 => exact (Kd.R_reads' HO361.out).2.1); rintro e w55 ⟨v364, rfl, ho0, hb⟩; refine ⟨_, rfl, ?_⟩; have n0_ := Aside0.mk (Kd.S_elder' (by (with_reducible repeat (first | apply Kd.S_alloc | apply Kd.S_drewN | apply Kd.S_drew)); exact HO_6.out) (Kd.S_base ho0) hb); have n1_ := Aside0.mk (Kd.S_elder' (by (with_reducible repeat (first | apply Kd.S_alloc | apply Kd.S_drewN | apply Kd.S_drew)); exact HO_9.out) (Kd.S_base ho0) hb); have n2_ := Aside0.mk (Kd.R_below (ra_ HO361.out) hb); have n3_ := Aside0.mk (Kd.S_lower (Kd.S_new' (Kd.S_new' (Kd.S_new' ho0 (Kd.S_lt (by (with_reducible repeat (first | apply Kd.S_alloc | apply Kd.S_drewN | apply Kd.S_drew)); exact HO_6.out))) (Kd.S_lt (by (with_reducible repeat (first | apply Kd.S_alloc | apply Kd.S_drewN | apply Kd.S_drew)); exact HO_9.out))) (Kd.R_lt (ra_ HO361.out))) (below_size blw_)); have n4_ := Aside0.mk (below_step blw_ hb); clear HO_6; clear HO_9; clear HO361; clear HB; have HO_6 := n0_; have HO_9 := n1_; have HO361 := n2_; have HO365 := n3_; have HB := n4_; clear n0_ n1_ n2_ n3_ n4_; (try clear hb); (try clear hb2); (try clear hk); (try clear hi); (try clear ho0)))
           (try simp only [Act.put, List.setIfInBounds_toArray, List.set_cons_zero, List.set_cons_succ])
           go_cut [92] (fun v92 wc => ∃ (kq : Nat) (x92_49 : Bool), v92 = .bool x92_49 ∧ Aside0 (laws_FnExactAllFlips.j2 kq t357 t356 x92_49 = some r) ∧ Aside0 (kq ≤ kj28) ∧ Aside0 (Kd.S (Kd.slice 36 k36) 22 wc w.heap.size (fun _ => True) (.slice Ao51 t344.length co51) t357) ∧ Aside0 (Below w.heap.size w wc))
           case first =>
            have H := HC50.out
            clear HC50
            replace H := Option.bind_eq_some_iff.mp H
            obtain ⟨t366, A560, H⟩ := H
            replace H : (if t366 = true then (laws_FnExactAllFlips.j2 kj28 t357 t356 (t363 != t338)) else (laws_FnExactAllFlips.j2 kj28 t357 t356 true)) = some r := H
            have A56 := Aside0.mk A560
            clear A560
            by_cases c57 : t366 = true
            ·subst c57
             have H1 : (laws_FnExactAllFlips.j2 kj28 t357 t356 (t363 != t338)) = some r := by rw [if_pos rfl] at H; exact H
             clear H
             have H := H1
             clear H1
             have H' := Aside0.mk H
             clear H
             obtain ⟨Ao58, co58, eo58⟩ := Kd.S_slice HO365.out
             subst eo58
             obtain ⟨Ao59, co59, eo59⟩ := Kd.S_slice HO_6.out
             subst eo59
             go_wp2_with (first | ((with_reducible refine gate_callee (f := 43) rfl ?_); refine goesL_ (some 86) rfl rfl Try.func43 (by kernel_rfl) rfl #[.slice Ao58 t362.length co58, .slice Ao59 t337.length co59] rfl amp_ ?_; (with_reducible refine (laws_eqDiagonalSS.calls kj28 _ _ t362 _ _ t337 true _ ?side1 ?side2 ?side3 ?side4 A56.out).mono ?_); (case side1 => repeat (first | exact (Kd.S_reads' HO365.out).2.2 | (with_reducible refine Kd.C_alloc ?_ _) | (with_reducible refine Kd.C_drewN ?_ _) | (with_reducible refine Kd.C_drew ?_))); (case side2 => exact (Kd.S_reads' HO365.out).2.1); (case side3 => repeat (first | exact (Kd.S_reads' HO_6.out).2.2 | (with_reducible refine Kd.C_alloc ?_ _) | (with_reducible refine Kd.C_drewN ?_ _) | (with_reducible refine Kd.C_drew ?_))); (case side4 => exact (Kd.S_reads' HO_6.out).2.1); rintro e w60 ⟨rfl, hb⟩; refine ⟨_, rfl, ?_⟩; have n0_ := Aside0.mk (Kd.S_below (by (with_reducible repeat (first | apply Kd.S_alloc | apply Kd.S_drewN | apply Kd.S_drew)); exact HO_6.out) hb); have n1_ := Aside0.mk (Kd.S_below (by (with_reducible repeat (first | apply Kd.S_alloc | apply Kd.S_drewN | apply Kd.S_drew)); exact HO_9.out) hb); have n2_ := Aside0.mk (Kd.R_below (ra_ HO361.out) hb); have n3_ := Aside0.mk (Kd.S_below (by (with_reducible repeat (first | apply Kd.S_alloc | apply Kd.S_drewN | apply Kd.S_drew)); exact HO365.out) hb); have n4_ := Aside0.mk (below_step blw_ hb); clear HO_6; clear HO_9; clear HO361; clear HO365; clear HB; have HO_6 := n0_; have HO_9 := n1_; have HO361 := n2_; have HO365 := n3_; have HB := n4_; clear n0_ n1_ n2_ n3_ n4_; (try clear hb); (try clear hb2); (try clear hk); (try clear hi)))
             go_meet
             case rel => exact ⟨_, ((t363 != t338)), (by first | rfl | (simp; done) | (simp [*]; done)), H', ⟨by have := HJ8.out; have := HJ28.out; first | omega | exact Nat.le_refl _⟩, ⟨by (with_reducible repeat (first | apply Kd.S_alloc | apply Kd.S_drewN | apply Kd.S_drew)); exact Kd.S_mono HO_9.out (fun _ hk => trivial)⟩, ⟨by repeat (first | (with_reducible first | exact HB.out | apply below_alloc | apply pw_below_drewN | apply below_drew1) | exact HB.out)⟩⟩
            ·replace c57 := Bool.eq_false_iff.mpr c57
             subst c57
             have H1 : (laws_FnExactAllFlips.j2 kj28 t357 t356 true) = some r := by rw [if_neg (show ¬ (false = true) by decide)] at H; exact H
             clear H
             have H := H1
             clear H1
             have H' := Aside0.mk H
             clear H
             obtain ⟨Ao61, co61, eo61⟩ := Kd.S_slice HO365.out
             subst eo61
             obtain ⟨Ao62, co62, eo62⟩ := Kd.S_slice HO_6.out
             subst eo62
             go_wp2_with (first | ((with_reducible refine gate_callee (f := 43) rfl ?_); refine goesL_ (some 86) rfl rfl Try.func43 (by kernel_rfl) rfl #[.slice Ao61 t362.length co61, .slice Ao62 t337.length co62] rfl amp_ ?_; (with_reducible refine (laws_eqDiagonalSS.calls kj28 _ _ t362 _ _ t337 false _ ?side1 ?side2 ?side3 ?side4 A56.out).mono ?_); (case side1 => repeat (first | exact (Kd.S_reads' HO365.out).2.2 | (with_reducible refine Kd.C_alloc ?_ _) | (with_reducible refine Kd.C_drewN ?_ _) | (with_reducible refine Kd.C_drew ?_))); (case side2 => exact (Kd.S_reads' HO365.out).2.1); (case side3 => repeat (first | exact (Kd.S_reads' HO_6.out).2.2 | (with_reducible refine Kd.C_alloc ?_ _) | (with_reducible refine Kd.C_drewN ?_ _) | (with_reducible refine Kd.C_drew ?_))); (case side4 => exact (Kd.S_reads' HO_6.out).2.1); rintro e w63 ⟨rfl, hb⟩; refine ⟨_, rfl, ?_⟩; have n0_ := Aside0.mk (Kd.S_below (by (with_reducible repeat (first | apply Kd.S_alloc | apply Kd.S_drewN | apply Kd.S_drew)); exact HO_6.out) hb); have n1_ := Aside0.mk (Kd.S_below (by (with_reducible repeat (first | apply Kd.S_alloc | apply Kd.S_drewN | apply Kd.S_drew)); exact HO_9.out) hb); have n2_ := Aside0.mk (Kd.R_below (ra_ HO361.out) hb); have n3_ := Aside0.mk (Kd.S_below (by (with_reducible repeat (first | apply Kd.S_alloc | apply Kd.S_drewN | apply Kd.S_drew)); exact HO365.out) hb); have n4_ := Aside0.mk (below_step blw_ hb); clear HO_6; clear HO_9; clear HO361; clear HO365; clear HB; have HO_6 := n0_; have HO_9 := n1_; have HO361 := n2_; have HO365 := n3_; have HB := n4_; clear n0_ n1_ n2_ n3_ n4_; (try clear hb); (try clear hb2); (try clear hk); (try clear hi)))
             go_meet
             case rel => exact ⟨_, (true), (by first | rfl | (simp; done) | (simp [*]; done)), H', ⟨by have := HJ8.out; have := HJ28.out; first | omega | exact Nat.le_refl _⟩, ⟨by (with_reducible repeat (first | apply Kd.S_alloc | apply Kd.S_drewN | apply Kd.S_drew)); exact Kd.S_mono HO_9.out (fun _ hk => trivial)⟩, ⟨by repeat (first | (with_reducible first | exact HB.out | apply below_alloc | apply pw_below_drewN | apply below_drew1) | exact HB.out)⟩⟩
           case rest =>
            clear HC50
            try clear c1
            try clear c2
            try clear p2
            try clear c3
            try clear c4
            try clear c4b0
            try clear c5
            try clear c11
            try clear c17
            try clear c18
            try clear c20
            try clear c22
            try clear c24
            try clear c27
            try clear c34
            try clear c34b0
            try clear c36
            try clear c41
            try clear c42
            try clear c43
            try clear c44
            try clear c45
            try clear c46
            try clear c46b0
            try clear c47
            try clear c47b0
            try clear c47b1
            try clear c57
            try clear p2
            obtain ⟨kq, x92_49, rfl, HA, HJ49, HO_9, HB⟩ := hcut
            have hl9_49 := (Kd.S_reads' HO_9.out).1
            rw [hl9_49] at HO_9
            (try simp only [hl9_49])
            cases kq with
            | zero => exact absurd HA.out (by simp [laws_FnExactAllFlips.j2])
            | succ kj49 =>
             have H := HA.out
             clear HA
             simp only [laws_FnExactAllFlips.j2] at H
             by_cases c64 : x92_49 = true
             ·subst c64
              have H1 : (some false) = some r := by rw [if_pos rfl] at H; exact H
              clear H
              have H := H1
              clear H1
              exact absurd (H.trans (congrArg some htrue.out)) (by decide)
             ·replace c64 := Bool.eq_false_iff.mpr c64
              subst c64
              have H1 : ((laws_heldDiagonalSS.f kj49 t357 1).bind fun t367 => (if t367 < 0 then (some false) else (if t367 = t356 then (some true) else (some false)))) = some r := by rw [if_neg (show ¬ (false = true) by decide)] at H; exact H
              clear H
              have H := H1
              clear H1
              replace H := Option.bind_eq_some_iff.mp H
              obtain ⟨t367, A650, H⟩ := H
              replace H : (if t367 < 0 then (some false) else (if t367 = t356 then (some true) else (some false))) = some r := H
              have A65 := Aside0.mk A650
              clear A650
              by_cases c66 : t367 < 0
              ·rw [if_pos c66] at H
               have c66b0 : decide (t367 < 0) = true := decide_eq_true c66
               clear c66
               exact absurd (H.trans (congrArg some htrue.out)) (by decide)
              ·rw [if_neg c66] at H
               have c66b0 : decide (t367 < 0) = false := decide_eq_false c66
               clear c66
               by_cases c67 : t367 = t356
               ·rw [if_pos c67] at H
                have c67b0 : (t367 == t356) = true := beq_iff_eq.mpr c67
                have c67b1 : (t367 != t356) = false := bne_eq_false_iff_eq.mpr c67
                clear c67
                obtain rfl := Option.some.inj H
                go_wp2_with (first | ((with_reducible refine gate_callee (f := 45) rfl ?_); refine goesL_ (some 95) rfl rfl Try.func45 (by kernel_rfl) rfl #[.slice Ao51 t357.length co51, .int .i64 1] rfl amp_ ?_; (with_reducible refine (laws_heldDiagonalSS.calls kj49 _ _ t357 1 t367 _ ?side1 ?side2 A65.out).mono ?_); (case side1 => repeat (first | exact (Kd.S_reads' HO_9.out).2.2 | (with_reducible refine Kd.C_alloc ?_ _) | (with_reducible refine Kd.C_drewN ?_ _) | (with_reducible refine Kd.C_drew ?_))); (case side2 => exact (Kd.S_reads' HO_9.out).2.1); rintro e w' ⟨rfl, ⟨nd, rfl⟩⟩; refine ⟨_, rfl, ?_⟩))
                go_ret
                exact ⟨by first | rfl | (simp [errW_none, errW_some] <;> rfl) | (simp [*, errW_none, errW_some] <;> rfl), by repeat (first | (with_reducible first | exact HB.out | apply below_alloc | apply pw_below_drewN | apply below_drew1) | exact HB.out)⟩
               ·rw [if_neg c67] at H
                have c67b0 : (t367 == t356) = false := beq_eq_false_iff_ne.mpr c67
                have c67b1 : (t367 != t356) = true := bne_iff_ne.mpr c67
                exact absurd (H.trans (congrArg some htrue.out)) (by decide)
          ·rw [if_neg c47] at H
           have c47b0 : (t358 == t356) = false := beq_eq_false_iff_ne.mpr c47
           have c47b1 : (t358 != t356) = true := bne_iff_ne.mpr c47
           exact absurd (H.trans (congrArg some htrue.out)) (by decide)
     ·replace c27 := Bool.eq_false_iff.mpr c27
      subst c27
      have H1 : (some false) = some r := by rw [if_neg (show ¬ (false = true) by decide)] at H; exact H
      clear H
      have H := H1
      clear H1
      exact absurd (H.trans (congrArg some htrue.out)) (by decide)

end Go.Proofs.Ytkipgbakoljaeaa.PFnExactAllFlips
