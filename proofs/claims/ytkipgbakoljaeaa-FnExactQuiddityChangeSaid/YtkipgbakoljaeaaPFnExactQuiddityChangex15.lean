-- WRITTEN BY A PROGRAM OF THIS WORK (wip/tools/ppatch.py) for this claim.
import Derived.Test.YtkipgbakoljaeaaPFnExactQuiddityChangex0
import Derived.Test.YtkipgbakoljaeaaPFnExactQuiddityChangex2
import Derived.Test.YtkipgbakoljaeaaPFnExactQuiddityChangex8
import Derived.Test.YtkipgbakoljaeaaPFnExactQuiddityChangex13
import Derived.Test.YtkipgbakoljaeaaPFnExactQuiddityChangex14
namespace Go.Proofs.Ytkipgbakoljaeaa.PFnExactQuiddityChange
open Go.RowKit Go.Proofs.YtkipgbakoljaeaaW.PrintWords Go.Proofs.YtkipgbakoljaeaaW.PrintLast Go.Proofs.YtkipgbakoljaeaaW.PrintMore
attribute [local go_sem] max2_int min2_int max_two min_two max_three min_three max_four min_four   -- for this text's walks alone
set_option linter.unusedVariables false
set_option linter.unusedSimpArgs false

/-! ### laws_FnExactQuiddityChange: function 6 -/
mutual
def laws_FnExactQuiddityChange.j0 : Nat → Int → List (S35) → List Int → Bool → List (S36) → List Int → Bool → Bool → Int → Int → Option (Bool)
 | 0, _, _, _, _, _, _, _, _, _, _ => none
 | k + 1, x0, x1, x8, x9, x10, x11, x12, x50, x335000, x335001 => if x50 = true then (some false) else ((laws_toDiagonalS.f k x1).bind fun t355 => ((laws_eqDiagonalS.f k x10 t355).bind fun t358 => (if t358 = true then ((laws_markDiagonalS.f k x10 1).bind fun bt359 => (if bt359.1 < 0 then (laws_FnExactQuiddityChange.j1 k x0 x1 x8 x9 x11 true x335000 x335001) else ((laws_eqIntS.f k x11 x8).bind fun t361 => (if t361 = true then (laws_FnExactQuiddityChange.j1 k x0 x1 x8 x9 x11 (x12 != x9) x335000 x335001) else (laws_FnExactQuiddityChange.j1 k x0 x1 x8 x9 x11 true x335000 x335001))))) else (some false))))
def laws_FnExactQuiddityChange.j1 : Nat → Int → List (S35) → List Int → Bool → List Int → Bool → Int → Int → Option (Bool)
 | 0, _, _, _, _, _, _, _, _ => none
 | k + 1, x0, x1, x8, x9, x11, x71, x335000, x335001 => if x71 = true then (some false) else ((laws_markIntS.f k x11 1).bind fun bt362 => ((laws_heldIntS.f k bt362.2 1).bind fun t364 => (if t364 < 0 then (some false) else (if t364 = bt362.1 then ((laws_toDiagonalS.f k x1).bind fun t365 => ((laws_toDiagonal.f x335000 x335001).bind fun bt368 => ((impl_QuiddityChange.f k x0 t365 bt368.1 bt368.2).bind fun bt370 => ((laws_eqIntS.f k bt370.1 x8).bind fun t374 => (if t374 = true then (laws_FnExactQuiddityChange.j2 k bt362.2 bt362.1 (bt370.2 != x9)) else (laws_FnExactQuiddityChange.j2 k bt362.2 bt362.1 true)))))) else (some false)))))
def laws_FnExactQuiddityChange.j2 : Nat → List Int → Int → Bool → Option (Bool)
 | 0, _, _, _ => none
 | k + 1, x11, x14, x100 => if x100 = true then (some false) else ((laws_heldIntS.f k x11 1).bind fun t375 => (if t375 < 0 then (some false) else (if t375 = x14 then (some true) else (some false))))
end
def laws_FnExactQuiddityChange.f (k : Nat) (a0 : Int) (l1 : List (S35)) (a2_0 : Int) (a2_1 : Int) : Option (Bool) := (laws_szDiagonalS.f l1 1048576).bind fun t335 => (if t335 < 0 then (some true) else ((laws_toDiagonalS.f k l1).bind fun t336 => ((laws_toDiagonal.f a2_0 a2_1).bind fun bt339 => ((spec_QuiddityChange.f k a0 t336 bt339.1 bt339.2).bind fun bt341 => ((laws_toDiagonalS.f k l1).bind fun t345 => ((laws_toDiagonal.f a2_0 a2_1).bind fun bt348 => ((impl_QuiddityChange.f k a0 t345 bt348.1 bt348.2).bind fun bt350 => ((laws_eqIntS.f k bt350.1 bt341.1).bind fun t354 => (if t354 = true then (laws_FnExactQuiddityChange.j0 k a0 l1 bt341.1 bt341.2 t345 bt350.1 bt350.2 (bt350.2 != bt341.2) a2_0 a2_1) else (laws_FnExactQuiddityChange.j0 k a0 l1 bt341.1 bt341.2 t345 bt350.1 bt350.2 true a2_0 a2_1))))))))))
theorem laws_FnExactQuiddityChange.mono_l : ∀ k, (∀ y0 y1 y2 y3 y4 y5 y6 y7 y8 y9, LeO (laws_FnExactQuiddityChange.j0 k y0 y1 y2 y3 y4 y5 y6 y7 y8 y9) (laws_FnExactQuiddityChange.j0 (k + 1) y0 y1 y2 y3 y4 y5 y6 y7 y8 y9)) ∧ (∀ y0 y1 y2 y3 y4 y5 y6 y7, LeO (laws_FnExactQuiddityChange.j1 k y0 y1 y2 y3 y4 y5 y6 y7) (laws_FnExactQuiddityChange.j1 (k + 1) y0 y1 y2 y3 y4 y5 y6 y7)) ∧ (∀ y0 y1 y2, LeO (laws_FnExactQuiddityChange.j2 k y0 y1 y2) (laws_FnExactQuiddityChange.j2 (k + 1) y0 y1 y2))
 | 0 => ⟨fun _ _ _ _ _ _ _ _ _ _ r h => by simp [laws_FnExactQuiddityChange.j0] at h, fun _ _ _ _ _ _ _ _ r h => by simp [laws_FnExactQuiddityChange.j1] at h, fun _ _ _ r h => by simp [laws_FnExactQuiddityChange.j2] at h⟩
 | k + 1 => by
  obtain ⟨ih0, ih1, ih2⟩ := laws_FnExactQuiddityChange.mono_l k
  refine ⟨?_, ?_, ?_⟩
  ·intro y0 y1 y2 y3 y4 y5 y6 y7 y8 y9
   unfold laws_FnExactQuiddityChange.j0
   repeat' first
   | (with_reducible exact ih0 _ _ _ _ _ _ _ _ _ _)
   | (with_reducible exact ih1 _ _ _ _ _ _ _ _)
   | (with_reducible exact ih2 _ _ _)
   | (with_reducible exact impl_QuiddityChange.mono _ _ _ _ _)
   | (with_reducible exact laws_eqDiagonalS.mono _ _ _)
   | (with_reducible exact laws_eqIntS.mono _ _ _)
   | (with_reducible exact laws_heldIntS.mono _ _ _)
   | (with_reducible exact laws_markDiagonalS.mono _ _ _)
   | (with_reducible exact laws_markIntS.mono _ _ _)
   | (with_reducible exact laws_toDiagonalS.mono _ _)
   | (with_reducible exact spec_QuiddityChange.mono _ _ _ _ _)
   | (with_reducible exact LeO.refl _)
   | (with_reducible exact LeO.none _)
   | (with_reducible refine LeO.ite ?_ ?_)
   | (with_reducible refine LeO.bind ?_ (fun _ => ?_))
   | exact ih0 _ _ _ _ _ _ _ _ _ _
   | exact ih1 _ _ _ _ _ _ _ _
   | exact ih2 _ _ _
   | exact impl_QuiddityChange.mono _ _ _ _ _
   | exact laws_eqDiagonalS.mono _ _ _
   | exact laws_eqIntS.mono _ _ _
   | exact laws_heldIntS.mono _ _ _
   | exact laws_markDiagonalS.mono _ _ _
   | exact laws_markIntS.mono _ _ _
   | exact laws_toDiagonalS.mono _ _
   | exact spec_QuiddityChange.mono _ _ _ _ _
   | exact LeO.none _
   | refine LeO.ite ?_ ?_
   | refine LeO.bind ?_ (fun _ => ?_)
  ·intro y0 y1 y2 y3 y4 y5 y6 y7
   unfold laws_FnExactQuiddityChange.j1
   repeat' first
   | (with_reducible exact ih0 _ _ _ _ _ _ _ _ _ _)
   | (with_reducible exact ih1 _ _ _ _ _ _ _ _)
   | (with_reducible exact ih2 _ _ _)
   | (with_reducible exact impl_QuiddityChange.mono _ _ _ _ _)
   | (with_reducible exact laws_eqDiagonalS.mono _ _ _)
   | (with_reducible exact laws_eqIntS.mono _ _ _)
   | (with_reducible exact laws_heldIntS.mono _ _ _)
   | (with_reducible exact laws_markDiagonalS.mono _ _ _)
   | (with_reducible exact laws_markIntS.mono _ _ _)
   | (with_reducible exact laws_toDiagonalS.mono _ _)
   | (with_reducible exact spec_QuiddityChange.mono _ _ _ _ _)
   | (with_reducible exact LeO.refl _)
   | (with_reducible exact LeO.none _)
   | (with_reducible refine LeO.ite ?_ ?_)
   | (with_reducible refine LeO.bind ?_ (fun _ => ?_))
   | exact ih0 _ _ _ _ _ _ _ _ _ _
   | exact ih1 _ _ _ _ _ _ _ _
   | exact ih2 _ _ _
   | exact impl_QuiddityChange.mono _ _ _ _ _
   | exact laws_eqDiagonalS.mono _ _ _
   | exact laws_eqIntS.mono _ _ _
   | exact laws_heldIntS.mono _ _ _
   | exact laws_markDiagonalS.mono _ _ _
   | exact laws_markIntS.mono _ _ _
   | exact laws_toDiagonalS.mono _ _
   | exact spec_QuiddityChange.mono _ _ _ _ _
   | exact LeO.none _
   | refine LeO.ite ?_ ?_
   | refine LeO.bind ?_ (fun _ => ?_)
  ·intro y0 y1 y2
   unfold laws_FnExactQuiddityChange.j2
   repeat' first
   | (with_reducible exact ih0 _ _ _ _ _ _ _ _ _ _)
   | (with_reducible exact ih1 _ _ _ _ _ _ _ _)
   | (with_reducible exact ih2 _ _ _)
   | (with_reducible exact impl_QuiddityChange.mono _ _ _ _ _)
   | (with_reducible exact laws_eqDiagonalS.mono _ _ _)
   | (with_reducible exact laws_eqIntS.mono _ _ _)
   | (with_reducible exact laws_heldIntS.mono _ _ _)
   | (with_reducible exact laws_markDiagonalS.mono _ _ _)
   | (with_reducible exact laws_markIntS.mono _ _ _)
   | (with_reducible exact laws_toDiagonalS.mono _ _)
   | (with_reducible exact spec_QuiddityChange.mono _ _ _ _ _)
   | (with_reducible exact LeO.refl _)
   | (with_reducible exact LeO.none _)
   | (with_reducible refine LeO.ite ?_ ?_)
   | (with_reducible refine LeO.bind ?_ (fun _ => ?_))
   | exact ih0 _ _ _ _ _ _ _ _ _ _
   | exact ih1 _ _ _ _ _ _ _ _
   | exact ih2 _ _ _
   | exact impl_QuiddityChange.mono _ _ _ _ _
   | exact laws_eqDiagonalS.mono _ _ _
   | exact laws_eqIntS.mono _ _ _
   | exact laws_heldIntS.mono _ _ _
   | exact laws_markDiagonalS.mono _ _ _
   | exact laws_markIntS.mono _ _ _
   | exact laws_toDiagonalS.mono _ _
   | exact spec_QuiddityChange.mono _ _ _ _ _
   | exact LeO.none _
   | refine LeO.ite ?_ ?_
   | refine LeO.bind ?_ (fun _ => ?_)
theorem laws_FnExactQuiddityChange.mono : ∀ a0 a1 a2 a3 k, LeO (laws_FnExactQuiddityChange.f k a0 a1 a2 a3) (laws_FnExactQuiddityChange.f (k + 1) a0 a1 a2 a3) := by
 intro a0 a1 a2 a3 k
 obtain ⟨ih0, ih1, ih2⟩ := laws_FnExactQuiddityChange.mono_l k
 unfold laws_FnExactQuiddityChange.f
 repeat' first
   | (with_reducible exact ih0 _ _ _ _ _ _ _ _ _ _)
   | (with_reducible exact ih1 _ _ _ _ _ _ _ _)
   | (with_reducible exact ih2 _ _ _)
   | (with_reducible exact impl_QuiddityChange.mono _ _ _ _ _)
   | (with_reducible exact laws_eqDiagonalS.mono _ _ _)
   | (with_reducible exact laws_eqIntS.mono _ _ _)
   | (with_reducible exact laws_heldIntS.mono _ _ _)
   | (with_reducible exact laws_markDiagonalS.mono _ _ _)
   | (with_reducible exact laws_markIntS.mono _ _ _)
   | (with_reducible exact laws_toDiagonalS.mono _ _)
   | (with_reducible exact spec_QuiddityChange.mono _ _ _ _ _)
   | (with_reducible exact LeO.refl _)
   | (with_reducible exact LeO.none _)
   | (with_reducible refine LeO.ite ?_ ?_)
   | (with_reducible refine LeO.bind ?_ (fun _ => ?_))
   | exact ih0 _ _ _ _ _ _ _ _ _ _
   | exact ih1 _ _ _ _ _ _ _ _
   | exact ih2 _ _ _
   | exact impl_QuiddityChange.mono _ _ _ _ _
   | exact laws_eqDiagonalS.mono _ _ _
   | exact laws_eqIntS.mono _ _ _
   | exact laws_heldIntS.mono _ _ _
   | exact laws_markDiagonalS.mono _ _ _
   | exact laws_markIntS.mono _ _ _
   | exact laws_toDiagonalS.mono _ _
   | exact spec_QuiddityChange.mono _ _ _ _ _
   | exact LeO.none _
   | refine LeO.ite ?_ ?_
   | refine LeO.bind ?_ (fun _ => ?_)
def laws_FnExactQuiddityChange.T5 : Bool × List (List Nat × List Nat) := (true, [([], []), ([], []), ([1], [1]), ([], []), ([3, 2], [3]), ([0, 2, 4, 4], [0, 2, 4]), ([5], [5]), ([6], [6]), ([6], [6]), ([7, 5, 0, 1, 2, 3, 4, 5, 6, 7], [7]), ([8, 9, 0, 1, 2, 3, 4, 5, 6, 7, 8, 9], [8])])
def laws_FnExactQuiddityChange.B5 : List Nat := [0, 0, 2, 0, 14, 31, 63, 127, 127, 255, 1023]
theorem laws_FnExactQuiddityChange.tab5 : rtab .any (opsOf Try.f6 5) = laws_FnExactQuiddityChange.T5 := by kernel_rfl
theorem laws_FnExactQuiddityChange.bits5 : waitsOk laws_FnExactQuiddityChange.T5.2 laws_FnExactQuiddityChange.B5 = true := by kernel_rfl
def laws_FnExactQuiddityChange.T24 : Bool × List (List Nat × List Nat) := (true, [([], []), ([], []), ([1], [1]), ([], []), ([3, 2], [3]), ([0, 2, 4, 4], [0, 2, 4]), ([5], [5]), ([6], [6]), ([6], [6]), ([7, 5, 0, 1, 2, 3, 4, 5, 6, 7], [7]), ([8, 9, 0, 1, 2, 3, 4, 5, 6, 7, 8, 9], [8])])
def laws_FnExactQuiddityChange.B24 : List Nat := [0, 0, 2, 0, 14, 31, 63, 127, 127, 255, 1023]
theorem laws_FnExactQuiddityChange.tab24 : rtab .any (opsOf Try.f6 24) = laws_FnExactQuiddityChange.T24 := by kernel_rfl
theorem laws_FnExactQuiddityChange.bits24 : waitsOk laws_FnExactQuiddityChange.T24.2 laws_FnExactQuiddityChange.B24 = true := by kernel_rfl
set_option maxHeartbeats 8000000 in
set_option maxRecDepth 100000 in
theorem laws_FnExactQuiddityChange.calls (k : Nat) (a0 : Int) (A1 : Option Addr) (c1 : Nat) (l1 : List (S35)) (a2_0 : Int) (a2_1 : Int) (r : Bool) (w : World) (hr1 : Kd.C k35 w A1 l1.length l1) (hc1 : l1.length ≤ c1) (h : laws_FnExactQuiddityChange.f k a0 l1 a2_0 a2_1 = some r) (htrue : Aside0 (r = true) := by exact ⟨rfl⟩) :
  Calls Try.prog 6 #[.int .i64 a0, .slice A1 l1.length c1, .agg #[.int .i64 a2_0, .int .i64 a2_1]] w fun e w' => e = .returned (.bool r) ∧ Below w.heap.size w w' := by
 have hu35 := Try.underlying35
 have HR1 := Aside0.mk hr1
 have HC1 := Aside0.mk hc1
 clear hr1 hc1
 have HB := Aside0.mk (Below.refl w.heap.size w)
 have H : ((laws_szDiagonalS.f l1 1048576).bind fun t335 => (if t335 < 0 then (some true) else ((laws_toDiagonalS.f k l1).bind fun t336 => ((laws_toDiagonal.f a2_0 a2_1).bind fun bt339 => ((spec_QuiddityChange.f k a0 t336 bt339.1 bt339.2).bind fun bt341 => ((laws_toDiagonalS.f k l1).bind fun t345 => ((laws_toDiagonal.f a2_0 a2_1).bind fun bt348 => ((impl_QuiddityChange.f k a0 t345 bt348.1 bt348.2).bind fun bt350 => ((laws_eqIntS.f k bt350.1 bt341.1).bind fun t354 => (if t354 = true then (laws_FnExactQuiddityChange.j0 k a0 l1 bt341.1 bt341.2 t345 bt350.1 bt350.2 (bt350.2 != bt341.2) a2_0 a2_1) else (laws_FnExactQuiddityChange.j0 k a0 l1 bt341.1 bt341.2 t345 bt350.1 bt350.2 true a2_0 a2_1))))))))))) = some r := h
 clear h
 replace H := Option.bind_eq_some_iff.mp H
 obtain ⟨t335, A40, H⟩ := H
 replace H : (if t335 < 0 then (some true) else ((laws_toDiagonalS.f k l1).bind fun t336 => ((laws_toDiagonal.f a2_0 a2_1).bind fun bt339 => ((spec_QuiddityChange.f k a0 t336 bt339.1 bt339.2).bind fun bt341 => ((laws_toDiagonalS.f k l1).bind fun t345 => ((laws_toDiagonal.f a2_0 a2_1).bind fun bt348 => ((impl_QuiddityChange.f k a0 t345 bt348.1 bt348.2).bind fun bt350 => ((laws_eqIntS.f k bt350.1 bt341.1).bind fun t354 => (if t354 = true then (laws_FnExactQuiddityChange.j0 k a0 l1 bt341.1 bt341.2 t345 bt350.1 bt350.2 (bt350.2 != bt341.2) a2_0 a2_1) else (laws_FnExactQuiddityChange.j0 k a0 l1 bt341.1 bt341.2 t345 bt350.1 bt350.2 true a2_0 a2_1)))))))))) = some r := H
 have A4 := Aside0.mk A40
 clear A40
 by_cases c5 : t335 < 0
 ·rw [if_pos c5] at H
  have c5b0 : decide (t335 < 0) = true := decide_eq_true c5
  clear c5
  obtain rfl := Option.some.inj H
  go_enter Try.func6, Try.ntmps6
  go_wp2_with (first | ((with_reducible refine gate_dst (N := 5) rfl ?_); refine box_event ?hg (N := 5) ?hd (cs := #[.int .i64 a2_0, .int .i64 a2_1]) (t := 35) ?hr ?_; (case hd => rfl); (case hg => rfl); (case hr => first | (go_simp; done) | (go_simp; rfl)); intro gb334 hg w6 hbox hb; have n0_ := Aside0.mk (below_step blw_ hb); have n1_ := Aside0.mk (hbox); have n2_ := Aside0.mk ((by rw [hg]; exact (below_size blw_) : w.heap.size ≤ gb334)); have n3_ := Aside0.mk ((by rw [hg]; exact (below_size blw_) : w.heap.size ≤ gb334)); clear HB; have HB := n0_; have BK334 := n1_; have GW334 := n2_; have GE334 := n3_; clear n0_ n1_ n2_ n3_; clear hb hbox hg) | ((with_reducible refine gate_callee (f := 20) rfl ?_); refine goesL_ (some 20) rfl rfl Try.func20 (by kernel_rfl) rfl #[.slice A1 l1.length c1, .int .i64 1048576] rfl amp_ ?_; (with_reducible refine (laws_szDiagonalS.calls _ _ l1 1048576 t335 _ ?side1 ?side2 A4.out).mono ?_); (case side1 => repeat (first | exact (Kd.C_below HR1.out HB.out) | (with_reducible refine Kd.C_alloc ?_ _) | (with_reducible refine Kd.C_drewN ?_ _) | (with_reducible refine Kd.C_drew ?_))); (case side2 => exact HC1.out); rintro e w' ⟨rfl, ⟨nd, rfl⟩⟩; refine ⟨_, rfl, ?_⟩))
  go_ret
  exact ⟨by first | rfl | (simp [errW_none, errW_some] <;> rfl) | (simp [*, errW_none, errW_some] <;> rfl), by repeat (first | (with_reducible first | exact HB.out | apply below_alloc | apply pw_below_drewN | apply below_drew1 | refine below_set ?_ GE334.out) | exact HB.out)⟩
 ·rw [if_neg c5] at H
  have c5b0 : decide (t335 < 0) = false := decide_eq_false c5
  clear c5
  replace H := Option.bind_eq_some_iff.mp H
  obtain ⟨t336, A70, H⟩ := H
  replace H : ((laws_toDiagonal.f a2_0 a2_1).bind fun bt339 => ((spec_QuiddityChange.f k a0 t336 bt339.1 bt339.2).bind fun bt341 => ((laws_toDiagonalS.f k l1).bind fun t345 => ((laws_toDiagonal.f a2_0 a2_1).bind fun bt348 => ((impl_QuiddityChange.f k a0 t345 bt348.1 bt348.2).bind fun bt350 => ((laws_eqIntS.f k bt350.1 bt341.1).bind fun t354 => (if t354 = true then (laws_FnExactQuiddityChange.j0 k a0 l1 bt341.1 bt341.2 t345 bt350.1 bt350.2 (bt350.2 != bt341.2) a2_0 a2_1) else (laws_FnExactQuiddityChange.j0 k a0 l1 bt341.1 bt341.2 t345 bt350.1 bt350.2 true a2_0 a2_1)))))))) = some r := H
  have A7 := Aside0.mk A70
  clear A70
  replace H := Option.bind_eq_some_iff.mp H
  obtain ⟨⟨t339, t340⟩, A80, H⟩ := H
  replace H : ((spec_QuiddityChange.f k a0 t336 t339 t340).bind fun bt341 => ((laws_toDiagonalS.f k l1).bind fun t345 => ((laws_toDiagonal.f a2_0 a2_1).bind fun bt348 => ((impl_QuiddityChange.f k a0 t345 bt348.1 bt348.2).bind fun bt350 => ((laws_eqIntS.f k bt350.1 bt341.1).bind fun t354 => (if t354 = true then (laws_FnExactQuiddityChange.j0 k a0 l1 bt341.1 bt341.2 t345 bt350.1 bt350.2 (bt350.2 != bt341.2) a2_0 a2_1) else (laws_FnExactQuiddityChange.j0 k a0 l1 bt341.1 bt341.2 t345 bt350.1 bt350.2 true a2_0 a2_1))))))) = some r := H
  have A8 := Aside0.mk A80
  clear A80
  replace H := Option.bind_eq_some_iff.mp H
  obtain ⟨⟨t341, t344⟩, A90, H⟩ := H
  replace H : ((laws_toDiagonalS.f k l1).bind fun t345 => ((laws_toDiagonal.f a2_0 a2_1).bind fun bt348 => ((impl_QuiddityChange.f k a0 t345 bt348.1 bt348.2).bind fun bt350 => ((laws_eqIntS.f k bt350.1 t341).bind fun t354 => (if t354 = true then (laws_FnExactQuiddityChange.j0 k a0 l1 t341 t344 t345 bt350.1 bt350.2 (bt350.2 != t344) a2_0 a2_1) else (laws_FnExactQuiddityChange.j0 k a0 l1 t341 t344 t345 bt350.1 bt350.2 true a2_0 a2_1)))))) = some r := H
  have A9 := Aside0.mk A90
  clear A90
  replace H := Option.bind_eq_some_iff.mp H
  obtain ⟨t345, A100, H⟩ := H
  replace H : ((laws_toDiagonal.f a2_0 a2_1).bind fun bt348 => ((impl_QuiddityChange.f k a0 t345 bt348.1 bt348.2).bind fun bt350 => ((laws_eqIntS.f k bt350.1 t341).bind fun t354 => (if t354 = true then (laws_FnExactQuiddityChange.j0 k a0 l1 t341 t344 t345 bt350.1 bt350.2 (bt350.2 != t344) a2_0 a2_1) else (laws_FnExactQuiddityChange.j0 k a0 l1 t341 t344 t345 bt350.1 bt350.2 true a2_0 a2_1))))) = some r := H
  have A10 := Aside0.mk A100
  clear A100
  replace H := Option.bind_eq_some_iff.mp H
  obtain ⟨⟨t348, t349⟩, A110, H⟩ := H
  replace H : ((impl_QuiddityChange.f k a0 t345 t348 t349).bind fun bt350 => ((laws_eqIntS.f k bt350.1 t341).bind fun t354 => (if t354 = true then (laws_FnExactQuiddityChange.j0 k a0 l1 t341 t344 t345 bt350.1 bt350.2 (bt350.2 != t344) a2_0 a2_1) else (laws_FnExactQuiddityChange.j0 k a0 l1 t341 t344 t345 bt350.1 bt350.2 true a2_0 a2_1)))) = some r := H
  have A11 := Aside0.mk A110
  clear A110
  replace H := Option.bind_eq_some_iff.mp H
  obtain ⟨⟨t350, t353⟩, A120, H⟩ := H
  replace H : ((laws_eqIntS.f k t350 t341).bind fun t354 => (if t354 = true then (laws_FnExactQuiddityChange.j0 k a0 l1 t341 t344 t345 t350 t353 (t353 != t344) a2_0 a2_1) else (laws_FnExactQuiddityChange.j0 k a0 l1 t341 t344 t345 t350 t353 true a2_0 a2_1))) = some r := H
  have A12 := Aside0.mk A120
  clear A120
  have HC13 := Aside0.mk H
  clear H
  go_enter Try.func6, Try.ntmps6
  try go_wp2_with (first | ((with_reducible refine gate_dst (N := 5) rfl ?_); refine box_event ?hg (N := 5) ?hd (cs := #[.int .i64 a2_0, .int .i64 a2_1]) (t := 35) ?hr ?_; (case hd => rfl); (case hg => rfl); (case hr => first | (go_simp; done) | (go_simp; rfl)); intro gb334 hg w14 hbox hb; have n0_ := Aside0.mk (below_step blw_ hb); have n1_ := Aside0.mk (hbox); have n2_ := Aside0.mk ((by rw [hg]; exact (below_size blw_) : w.heap.size ≤ gb334)); have n3_ := Aside0.mk ((by rw [hg]; exact (below_size blw_) : w.heap.size ≤ gb334)); clear HB; have HB := n0_; have BK334 := n1_; have GW334 := n2_; have GE334 := n3_; clear n0_ n1_ n2_ n3_; clear hb hbox hg) | ((with_reducible refine gate_callee (f := 20) rfl ?_); refine goesL_ (some 20) rfl rfl Try.func20 (by kernel_rfl) rfl #[.slice A1 l1.length c1, .int .i64 1048576] rfl amp_ ?_; (with_reducible refine (laws_szDiagonalS.calls _ _ l1 1048576 t335 _ ?side1 ?side2 A4.out).mono ?_); (case side1 => repeat (first | exact (Kd.C_below HR1.out HB.out) | (with_reducible refine Kd.C_alloc ?_ _) | (with_reducible refine Kd.C_drewN ?_ _) | (with_reducible refine Kd.C_drew ?_))); (case side2 => exact HC1.out); rintro e w' ⟨rfl, ⟨nd, rfl⟩⟩; refine ⟨_, rfl, ?_⟩))
  (try (rw [drewN_self w14]; generalize hq_ : World.drewN w14 _ = w14; have n0_ : Aside0 (w14.heap[gb334]? = some (.cells #[.int .i64 a2_0, .int .i64 a2_1] 35 (0, 0))) := ⟨by rw [← hq_]; exact (bk_ BK334.out)⟩; have n1_ : Aside0 (Below w.heap.size w w14) := ⟨by rw [← hq_]; exact (by repeat (first | (with_reducible first | exact HB.out | apply below_alloc | apply pw_below_drewN | apply below_drew1 | refine below_set ?_ GE334.out) | exact HB.out))⟩; clear BK334 HB hq_; have BK334 := n0_; have HB := n1_; clear n0_ n1_))
  have n0_ := Aside0.mk (blk_drew BK334.out)
  have n1_ := Aside0.mk (below_drew1 HB.out)
  clear BK334
  clear HB
  have BK334 := n0_
  have HB := n1_
  clear n0_ n1_
  refine start_ (n := 11) (S := fun w' => w'.cell? ⟨gb334, 0, none⟩ = some (.int .i64 a2_0) ∧ w'.cell? ⟨gb334, 1, none⟩ = some (.int .i64 a2_1)) (ds := []) #[false, false, false, false, false, false, false, false, false, false, false] (by kernel_rfl) rfl rfl ⟨(blk_cell BK334.out 0).trans rfl, (blk_cell BK334.out 1).trans rfl⟩ (fun hHeld => ?_); refine with_tabW laws_FnExactQuiddityChange.tab5 laws_FnExactQuiddityChange.bits5 (fun HT_ HW_ => ?_)
  generalize w14.drew = w15 at BK334 HB hHeld ⊢
  refine pure_ (i := 0) (N := some 24) (v := ?_) (a' := ?_) #[true, false, false, false, false, false, false, false, false, false, false] rfl rfl (any_of HT_.out (by kernel_rfl)) (fun _ _ _ h => h) (Or.inl ⟨by rfl, ?_⟩) ?_ ?_
  rotate_left
  ·intro w'
   go_simp
   with_reducible rfl
  rotate_left
  ·simp only [Act.put, List.setIfInBounds_toArray, List.set_cons_zero, List.set_cons_succ, i64_w, i32_w]
   rfl
  refine pure_ (i := 1) (N := some 25) (v := ?_) (a' := ?_) #[true, true, false, false, false, false, false, false, false, false, false] rfl rfl (any_of HT_.out (by kernel_rfl)) (fun _ _ _ h => h) (Or.inl ⟨by rfl, ?_⟩) ?_ ?_
  rotate_left
  ·intro w'
   go_simp
   with_reducible rfl
  rotate_left
  ·simp only [Act.put, List.setIfInBounds_toArray, List.set_cons_zero, List.set_cons_succ, i64_w, i32_w]
   rfl
  refine take_ (i := 3) (N := some 27) (v := ?_) (a' := ?_) #[true, true, false, true, false, false, false, false, false, false, false] rfl rfl (take_ofW HT_.out HW_.out (by kernel_rfl)) (fun _ _ _ h => h) (Or.inl ⟨by rfl, ?_⟩) hHeld ?_ ?_
  rotate_left
  ·rintro w' ⟨s0, s1⟩
   go_simp
   with_reducible rfl
  rotate_left
  ·simp only [Act.put, List.setIfInBounds_toArray, List.set_cons_zero, List.set_cons_succ, i64_w, i32_w]
   rfl
  refine one_ (i := 2) (N := some 26) #[true, true, true, true, false, false, false, false, false, false, false] rfl rfl (one_of HT_.out (by kernel_rfl)) (by decide) (fun K hK => ?_)
  refine goes_ Try.func22 (by kernel_rfl) rfl #[.slice A1 l1.length c1] (by rfl) rfl rfl amp_ ?_
  with_reducible refine (laws_toDiagonalS.calls k _ _ l1 t336 _ ?side1 ?side2 A7.out).mono ?_
  (case side1 => repeat (first | exact (Kd.C_below HR1.out HB.out) | (with_reducible refine Kd.C_alloc ?_ _) | (with_reducible refine Kd.C_drewN ?_ _) | (with_reducible refine Kd.C_drew ?_)))
  (case side2 => exact HC1.out)
  rintro e w16 ⟨v337, rfl, ho0, hb⟩
  refine ⟨_, rfl, ?_⟩
  have n0_ := Aside0.mk (Kd.R_lower ho0 (below_size (by repeat (first | (with_reducible first | exact HB.out | apply below_alloc | apply pw_below_drewN | apply below_drew1 | refine below_set ?_ GE334.out) | exact HB.out))))
  have n1_ := Aside0.mk (blk_below (g := gb334) (o := .cells #[.int .i64 a2_0, .int .i64 a2_1] 35 (0, 0)) (bk_ BK334.out) hb)
  have n2_ := Aside0.mk (below_step (by repeat (first | (with_reducible first | exact HB.out | apply below_alloc | apply pw_below_drewN | apply below_drew1 | refine below_set ?_ GE334.out) | exact HB.out)) hb)
  clear BK334
  clear HB
  have HO338 := n0_
  have BK334 := n1_
  have HB := n2_
  clear n0_ n1_ n2_
  (try clear hb)
  (try clear hb2)
  (try clear hk)
  (try clear hi)
  (try clear ho0)
  refine hK.out _ _ ⟨(blk_cell BK334.out 0).trans rfl, (blk_cell BK334.out 1).trans rfl⟩ (fun hHeld => ?_)
  clear hK K
  refine norm_ (a' := ?_) ?_ ?_
  rotate_left
  ·show Act.put _ (some 26) _ = _
   simp only [Act.put, List.setIfInBounds_toArray, List.set_cons_zero, List.set_cons_succ, i64_w, i32_w]
   rfl
  refine one_ (i := 4) (N := some 28) #[true, true, true, true, true, false, false, false, false, false, false] rfl rfl (one_of HT_.out (by kernel_rfl)) (by decide) (fun K hK => ?_)
  refine goes_ Try.func25 (by kernel_rfl) rfl #[.agg #[.int .i64 a2_0, .int .i64 a2_1]] (by rfl) rfl rfl amp_ ?_
  with_reducible refine (laws_toDiagonal.calls a2_0 a2_1 t339 t340 _ A8.out).mono ?_
  rintro e w17 ⟨rfl, hb⟩
  refine ⟨_, rfl, ?_⟩
  have n0_ := Aside0.mk (Kd.R_below (ra_ HO338.out) hb)
  have n1_ := Aside0.mk (blk_below (g := gb334) (o := .cells #[.int .i64 a2_0, .int .i64 a2_1] 35 (0, 0)) (bk_ BK334.out) hb)
  have n2_ := Aside0.mk (below_step (by repeat (first | (with_reducible first | exact HB.out | apply below_alloc | apply pw_below_drewN | apply below_drew1 | refine below_set ?_ GE334.out) | exact HB.out)) hb)
  clear HO338
  clear BK334
  clear HB
  have HO338 := n0_
  have BK334 := n1_
  have HB := n2_
  clear n0_ n1_ n2_
  (try clear hb)
  (try clear hb2)
  (try clear hk)
  (try clear hi)
  obtain ⟨Ao18, co18, eo18⟩ := Kd.R_slice HO338.out
  (first | subst eo18 | (injection eo18 with f1_ f2_ f3_; have f4_ := f1_.symm; have f5_ := f3_.symm; clear f1_ f2_ f3_; subst f4_; subst f5_))
  refine hK.out _ _ ⟨(blk_cell BK334.out 0).trans rfl, (blk_cell BK334.out 1).trans rfl⟩ (fun hHeld => ?_)
  clear hK K
  refine norm_ (a' := ?_) ?_ ?_
  rotate_left
  ·show Act.put _ (some 28) _ = _
   simp only [Act.put, List.setIfInBounds_toArray, List.set_cons_zero, List.set_cons_succ, i64_w, i32_w]
   rfl
  refine one_ (i := 5) (N := some 29) #[true, true, true, true, true, true, false, false, false, false, false] rfl rfl (one_of HT_.out (by kernel_rfl)) (by decide) (fun K hK => ?_)
  refine goes_ Try.func28 (by kernel_rfl) rfl #[.int .i64 a0, .slice Ao18 t336.length co18, .agg #[.int .i64 t339, .int .i64 t340]] (by rfl) rfl rfl amp_ ?_
  with_reducible refine (spec_QuiddityChange.calls k a0 _ _ t336 t339 t340 t341 t344 _ ?side1 ?side2 A9.out).mono ?_
  (case side1 => repeat (first | exact (Kd.R_reads' HO338.out).2.2 | (with_reducible refine Kd.C_alloc ?_ _) | (with_reducible refine Kd.C_drewN ?_ _) | (with_reducible refine Kd.C_drew ?_)))
  (case side2 => exact (Kd.R_reads' HO338.out).2.1)
  rintro e w19 ⟨v342, rfl, ho0, hb⟩
  refine ⟨_, rfl, ?_⟩
  have n0_ := Aside0.mk (Kd.R_below (ra_ HO338.out) hb)
  have n1_ := Aside0.mk (Kd.R_lower ho0 (below_size (by repeat (first | (with_reducible first | exact HB.out | apply below_alloc | apply pw_below_drewN | apply below_drew1 | refine below_set ?_ GE334.out) | exact HB.out))))
  have n2_ := Aside0.mk (blk_below (g := gb334) (o := .cells #[.int .i64 a2_0, .int .i64 a2_1] 35 (0, 0)) (bk_ BK334.out) hb)
  have n3_ := Aside0.mk (below_step (by repeat (first | (with_reducible first | exact HB.out | apply below_alloc | apply pw_below_drewN | apply below_drew1 | refine below_set ?_ GE334.out) | exact HB.out)) hb)
  clear HO338
  clear BK334
  clear HB
  have HO338 := n0_
  have HO343 := n1_
  have BK334 := n2_
  have HB := n3_
  clear n0_ n1_ n2_ n3_
  (try clear hb)
  (try clear hb2)
  (try clear hk)
  (try clear hi)
  (try clear ho0)
  refine hK.out _ _ ⟨(blk_cell BK334.out 0).trans rfl, (blk_cell BK334.out 1).trans rfl⟩ (fun hHeld => ?_)
  clear hK K
  refine norm_ (a' := ?_) ?_ ?_
  rotate_left
  ·show Act.put _ (some 29) _ = _
   simp only [Act.put, List.setIfInBounds_toArray, List.set_cons_zero, List.set_cons_succ, i64_w, i32_w]
   rfl
  refine pure_ (i := 6) (N := some 23) (v := ?_) (a' := ?_) #[true, true, true, true, true, true, true, false, false, false, false] rfl rfl (any_of HT_.out (by kernel_rfl)) (fun _ _ _ h => h) (Or.inl ⟨by rfl, ?_⟩) ?_ ?_
  rotate_left
  ·intro w'
   go_simp
   with_reducible rfl
  rotate_left
  ·simp only [Act.put, List.setIfInBounds_toArray, List.set_cons_zero, List.set_cons_succ, i64_w, i32_w]
   rfl
  refine pure_ (i := 7) (N := some 30) (v := ?_) (a' := ?_) #[true, true, true, true, true, true, true, true, false, false, false] rfl rfl (any_of HT_.out (by kernel_rfl)) (fun _ _ _ h => h) (Or.inl ⟨by rfl, ?_⟩) ?_ ?_
  rotate_left
  ·intro w'
   go_simp
   with_reducible rfl
  rotate_left
  ·simp only [Act.put, List.setIfInBounds_toArray, List.set_cons_zero, List.set_cons_succ, i64_w, i32_w]
   rfl
  refine pure_ (i := 8) (N := some 31) (v := ?_) (a' := ?_) #[true, true, true, true, true, true, true, true, true, false, false] rfl rfl (any_of HT_.out (by kernel_rfl)) (fun _ _ _ h => h) (Or.inl ⟨by rfl, ?_⟩) ?_ ?_
  rotate_left
  ·intro w'
   go_simp
   with_reducible rfl
  rotate_left
  ·simp only [Act.put, List.setIfInBounds_toArray, List.set_cons_zero, List.set_cons_succ, i64_w, i32_w]
   rfl
  refine pure_ (i := 9) (N := some 8) (v := ?_) (a' := ?_) #[true, true, true, true, true, true, true, true, true, true, false] rfl rfl (any_of HT_.out (by kernel_rfl)) (fun _ _ _ h => h) (Or.inl ⟨by rfl, ?_⟩) ?_ ?_
  rotate_left
  ·intro w'
   go_simp
   with_reducible rfl
  rotate_left
  ·simp only [Act.put, List.setIfInBounds_toArray, List.set_cons_zero, List.set_cons_succ, i64_w, i32_w]
   rfl
  refine pure_ (i := 10) (N := some 9) (v := ?_) (a' := ?_) #[true, true, true, true, true, true, true, true, true, true, true] rfl rfl (any_of HT_.out (by kernel_rfl)) (fun _ _ _ h => h) (Or.inl ⟨by rfl, ?_⟩) ?_ ?_
  rotate_left
  ·intro w'
   go_simp
   with_reducible rfl
  rotate_left
  ·simp only [Act.put, List.setIfInBounds_toArray, List.set_cons_zero, List.set_cons_succ, i64_w, i32_w]
   rfl
  refine done_ (done_of HT_.out (by kernel_rfl)) ?_
  go_upto_region 8 with (first | ((with_reducible refine gate_callee (f := 22) rfl ?_); refine goesL_ (some 33) rfl rfl Try.func22 (by kernel_rfl) rfl #[.slice A1 l1.length c1] rfl amp_ ?_; (with_reducible refine (laws_toDiagonalS.calls k _ _ l1 t345 _ ?side1 ?side2 A10.out).mono ?_); (case side1 => repeat (first | exact (Kd.C_below HR1.out HB.out) | (with_reducible refine Kd.C_alloc ?_ _) | (with_reducible refine Kd.C_drewN ?_ _) | (with_reducible refine Kd.C_drew ?_))); (case side2 => exact HC1.out); rintro e w20 ⟨v346, rfl, ho0, hb⟩; refine ⟨_, rfl, ?_⟩; have n0_ := Aside0.mk (Kd.R_elder' (ra_ HO338.out) (Kd.R_base ho0) hb); have n1_ := Aside0.mk (Kd.R_below (ra_ HO343.out) hb); have n2_ := Aside0.mk (Kd.R_lower (Kd.R_new' ho0 (Kd.R_lt (ra_ HO338.out))) (below_size (by repeat (first | (with_reducible first | exact HB.out | apply below_alloc | apply pw_below_drewN | apply below_drew1 | refine below_set ?_ GE334.out) | exact HB.out)))); have n3_ := Aside0.mk (blk_below (g := gb334) (o := .cells #[.int .i64 a2_0, .int .i64 a2_1] 35 (0, 0)) (bk_ BK334.out) hb); have n4_ := Aside0.mk (below_step (by repeat (first | (with_reducible first | exact HB.out | apply below_alloc | apply pw_below_drewN | apply below_drew1 | refine below_set ?_ GE334.out) | exact HB.out)) hb); clear HO338; clear HO343; clear BK334; clear HB; have HO338 := n0_; have HO343 := n1_; have HO347 := n2_; have BK334 := n3_; have HB := n4_; clear n0_ n1_ n2_ n3_ n4_; (try clear hb); (try clear hb2); (try clear hk); (try clear hi); (try clear ho0); have hcz21_0 : w20.cell? ⟨gb334, 0, none⟩ = some (.int .i64 a2_0) := (blk_cell BK334.out 0).trans rfl; have hcz21_1 : w20.cell? ⟨gb334, 1, none⟩ = some (.int .i64 a2_1) := (blk_cell BK334.out 1).trans rfl; have hfz21_0 := blk_frozen BK334.out 0; have hfz21_1 := blk_frozen BK334.out 1) | ((with_reducible refine gate_callee (f := 25) rfl ?_); refine goesL_ (some 38) rfl rfl Try.func25 (by kernel_rfl) rfl #[.agg #[.int .i64 a2_0, .int .i64 a2_1]] rfl amp_ ?_; (with_reducible refine (laws_toDiagonal.calls a2_0 a2_1 t348 t349 _ A11.out).mono ?_); rintro e w22 ⟨rfl, hb⟩; refine ⟨_, rfl, ?_⟩; have n0_ := Aside0.mk (Kd.R_below (ra_ HO338.out) hb); have n1_ := Aside0.mk (Kd.R_below (ra_ HO343.out) hb); have n2_ := Aside0.mk (Kd.R_below (ra_ HO347.out) hb); have n3_ := Aside0.mk (blk_below (g := gb334) (o := .cells #[.int .i64 a2_0, .int .i64 a2_1] 35 (0, 0)) (bk_ BK334.out) hb); have n4_ := Aside0.mk (below_step (by repeat (first | (with_reducible first | exact HB.out | apply below_alloc | apply pw_below_drewN | apply below_drew1 | refine below_set ?_ GE334.out) | exact HB.out)) hb); clear HO338; clear HO343; clear HO347; clear BK334; clear HB; have HO338 := n0_; have HO343 := n1_; have HO347 := n2_; have BK334 := n3_; have HB := n4_; clear n0_ n1_ n2_ n3_ n4_; (try clear hb); (try clear hb2); (try clear hk); (try clear hi); obtain ⟨Ao23, co23, eo23⟩ := Kd.R_slice HO347.out; subst eo23) | ((with_reducible refine gate_callee (f := 29) rfl ?_); refine goesL_ (some 39) rfl rfl Try.func29 (by kernel_rfl) rfl #[.int .i64 a0, .slice Ao23 t345.length co23, .agg #[.int .i64 t348, .int .i64 t349]] rfl amp_ ?_; (with_reducible refine (impl_QuiddityChange.calls k a0 _ _ t345 t348 t349 t350 t353 _ ?side1 ?side2 A12.out).mono ?_); (case side1 => repeat (first | exact (Kd.R_reads' HO347.out).2.2 | (with_reducible refine Kd.C_alloc ?_ _) | (with_reducible refine Kd.C_drewN ?_ _) | (with_reducible refine Kd.C_drew ?_))); (case side2 => exact (Kd.R_reads' HO347.out).2.1); rintro e w24 ⟨v351, rfl, ho0, hb⟩; refine ⟨_, rfl, ?_⟩; have n0_ := Aside0.mk (Kd.R_below (ra_ HO338.out) hb); have n1_ := Aside0.mk (Kd.R_elder' (ra_ HO343.out) (Kd.R_base ho0) hb); have n2_ := Aside0.mk (Kd.R_below (ra_ HO347.out) hb); have n3_ := Aside0.mk (Kd.R_lower (Kd.R_new' ho0 (Kd.R_lt (ra_ HO343.out))) (below_size (by repeat (first | (with_reducible first | exact HB.out | apply below_alloc | apply pw_below_drewN | apply below_drew1 | refine below_set ?_ GE334.out) | exact HB.out)))); have n4_ := Aside0.mk (blk_below (g := gb334) (o := .cells #[.int .i64 a2_0, .int .i64 a2_1] 35 (0, 0)) (bk_ BK334.out) hb); have n5_ := Aside0.mk (below_step (by repeat (first | (with_reducible first | exact HB.out | apply below_alloc | apply pw_below_drewN | apply below_drew1 | refine below_set ?_ GE334.out) | exact HB.out)) hb); clear HO338; clear HO343; clear HO347; clear BK334; clear HB; have HO338 := n0_; have HO343 := n1_; have HO347 := n2_; have HO352 := n3_; have BK334 := n4_; have HB := n5_; clear n0_ n1_ n2_ n3_ n4_ n5_; (try clear hb); (try clear hb2); (try clear hk); (try clear hi); (try clear ho0)))
  (try simp only [Act.put, List.setIfInBounds_toArray, List.set_cons_zero, List.set_cons_succ])
  go_cut [50] (fun v50 wc => ∃ (kq : Nat) (x50_12 : Bool), v50 = .bool x50_12 ∧ Aside0 (laws_FnExactQuiddityChange.j0 kq a0 l1 t341 t344 t345 t350 t353 x50_12 a2_0 a2_1 = some r) ∧ Aside0 (kq ≤ k) ∧ Aside0 (Kd.R (Kd.int .i64) 3 wc w.heap.size (fun k_ => some k_ ≠ (v351 : Value).ownBlock) v342 t341) ∧ Aside0 (Kd.R k36 36 wc w.heap.size (fun _ => True) (.slice Ao23 t345.length co23) t345) ∧ Aside0 (Kd.R (Kd.int .i64) 3 wc w.heap.size (fun k_ => some k_ ≠ (v342 : Value).ownBlock) v351 t350) ∧ Aside0 (wc.heap[gb334]? = some (.cells #[.int .i64 a2_0, .int .i64 a2_1] 35 (0, 0))) ∧ Aside0 (Below w.heap.size w wc))
  case first =>
   have H := HC13.out
   clear HC13
   replace H := Option.bind_eq_some_iff.mp H
   obtain ⟨t354, A250, H⟩ := H
   replace H : (if t354 = true then (laws_FnExactQuiddityChange.j0 k a0 l1 t341 t344 t345 t350 t353 (t353 != t344) a2_0 a2_1) else (laws_FnExactQuiddityChange.j0 k a0 l1 t341 t344 t345 t350 t353 true a2_0 a2_1)) = some r := H
   have A25 := Aside0.mk A250
   clear A250
   by_cases c26 : t354 = true
   ·subst c26
    have H1 : (laws_FnExactQuiddityChange.j0 k a0 l1 t341 t344 t345 t350 t353 (t353 != t344) a2_0 a2_1) = some r := by rw [if_pos rfl] at H; exact H
    clear H
    have H := H1
    clear H1
    have H' := Aside0.mk H
    clear H
    obtain ⟨Ao27, co27, eo27⟩ := Kd.R_slice HO352.out
    subst eo27
    obtain ⟨Ao28, co28, eo28⟩ := Kd.R_slice HO343.out
    subst eo28
    go_wp2_with (first | ((with_reducible refine gate_callee (f := 30) rfl ?_); refine goesL_ (some 44) rfl rfl Try.func30 (by kernel_rfl) rfl #[.slice Ao27 t350.length co27, .slice Ao28 t341.length co28] rfl amp_ ?_; (with_reducible refine (laws_eqIntS.calls k _ _ t350 _ _ t341 true _ ?side1 ?side2 ?side3 ?side4 A25.out).mono ?_); (case side1 => repeat (first | exact (Kd.R_reads' HO352.out).2.2 | (with_reducible refine Kd.C_alloc ?_ _) | (with_reducible refine Kd.C_drewN ?_ _) | (with_reducible refine Kd.C_drew ?_))); (case side2 => exact (Kd.R_reads' HO352.out).2.1); (case side3 => repeat (first | exact (Kd.R_reads' HO343.out).2.2 | (with_reducible refine Kd.C_alloc ?_ _) | (with_reducible refine Kd.C_drewN ?_ _) | (with_reducible refine Kd.C_drew ?_))); (case side4 => exact (Kd.R_reads' HO343.out).2.1); rintro e w' ⟨rfl, ⟨nd, rfl⟩⟩; refine ⟨_, rfl, ?_⟩))
    go_meet
    case rel => exact ⟨_, ((t353 != t344)), (by first | rfl | (simp; done) | (simp [*]; done)), H', ⟨by first | omega | exact Nat.le_refl _⟩, ⟨by (with_reducible repeat (first | apply Kd.R_alloc | apply Kd.R_drewN | apply Kd.R_drew)); exact Kd.R_mono HO343.out (fun _ hk => hk.2)⟩, ⟨by (with_reducible repeat (first | apply Kd.R_alloc | apply Kd.R_drewN | apply Kd.R_drew)); exact Kd.R_mono HO347.out (fun _ hk => trivial)⟩, ⟨by (with_reducible repeat (first | apply Kd.R_alloc | apply Kd.R_drewN | apply Kd.R_drew)); exact Kd.R_mono HO352.out (fun _ hk => hk.2)⟩, ⟨bk_ BK334.out⟩, ⟨by repeat (first | (with_reducible first | exact HB.out | apply below_alloc | apply pw_below_drewN | apply below_drew1 | refine below_set ?_ GE334.out) | exact HB.out)⟩⟩
   ·replace c26 := Bool.eq_false_iff.mpr c26
    subst c26
    have H1 : (laws_FnExactQuiddityChange.j0 k a0 l1 t341 t344 t345 t350 t353 true a2_0 a2_1) = some r := by rw [if_neg (show ¬ (false = true) by decide)] at H; exact H
    clear H
    have H := H1
    clear H1
    have H' := Aside0.mk H
    clear H
    obtain ⟨Ao29, co29, eo29⟩ := Kd.R_slice HO352.out
    subst eo29
    obtain ⟨Ao30, co30, eo30⟩ := Kd.R_slice HO343.out
    subst eo30
    go_wp2_with (first | ((with_reducible refine gate_callee (f := 30) rfl ?_); refine goesL_ (some 44) rfl rfl Try.func30 (by kernel_rfl) rfl #[.slice Ao29 t350.length co29, .slice Ao30 t341.length co30] rfl amp_ ?_; (with_reducible refine (laws_eqIntS.calls k _ _ t350 _ _ t341 false _ ?side1 ?side2 ?side3 ?side4 A25.out).mono ?_); (case side1 => repeat (first | exact (Kd.R_reads' HO352.out).2.2 | (with_reducible refine Kd.C_alloc ?_ _) | (with_reducible refine Kd.C_drewN ?_ _) | (with_reducible refine Kd.C_drew ?_))); (case side2 => exact (Kd.R_reads' HO352.out).2.1); (case side3 => repeat (first | exact (Kd.R_reads' HO343.out).2.2 | (with_reducible refine Kd.C_alloc ?_ _) | (with_reducible refine Kd.C_drewN ?_ _) | (with_reducible refine Kd.C_drew ?_))); (case side4 => exact (Kd.R_reads' HO343.out).2.1); rintro e w' ⟨rfl, ⟨nd, rfl⟩⟩; refine ⟨_, rfl, ?_⟩))
    go_meet
    case rel => exact ⟨_, (true), (by first | rfl | (simp; done) | (simp [*]; done)), H', ⟨by first | omega | exact Nat.le_refl _⟩, ⟨by (with_reducible repeat (first | apply Kd.R_alloc | apply Kd.R_drewN | apply Kd.R_drew)); exact Kd.R_mono HO343.out (fun _ hk => hk.2)⟩, ⟨by (with_reducible repeat (first | apply Kd.R_alloc | apply Kd.R_drewN | apply Kd.R_drew)); exact Kd.R_mono HO347.out (fun _ hk => trivial)⟩, ⟨by (with_reducible repeat (first | apply Kd.R_alloc | apply Kd.R_drewN | apply Kd.R_drew)); exact Kd.R_mono HO352.out (fun _ hk => hk.2)⟩, ⟨bk_ BK334.out⟩, ⟨by repeat (first | (with_reducible first | exact HB.out | apply below_alloc | apply pw_below_drewN | apply below_drew1 | refine below_set ?_ GE334.out) | exact HB.out)⟩⟩
  case rest =>
   clear HC13
   try clear c1
   try clear c2
   try clear p2
   try clear c3
   try clear c5
   try clear c5b0
   try clear c6
   try clear c20
   try clear c22
   try clear c25
   try clear c26
   try clear c28
   try clear c29
   try clear c30
   try clear hcz21_0
   try clear hcz21_1
   try clear hfz21_0
   try clear hfz21_1
   obtain ⟨kq, x50_12, rfl, HA, HJ12, HO_8, HO_10, HO_11, BK334, HB⟩ := hcut
   cases kq with
   | zero => exact absurd HA.out (by simp [laws_FnExactQuiddityChange.j0])
   | succ kj12 =>
    have H := HA.out
    clear HA
    simp only [laws_FnExactQuiddityChange.j0] at H
    by_cases c31 : x50_12 = true
    ·subst c31
     have H1 : (some false) = some r := by rw [if_pos rfl] at H; exact H
     clear H
     have H := H1
     clear H1
     exact absurd (H.trans (congrArg some htrue.out)) (by decide)
    ·replace c31 := Bool.eq_false_iff.mpr c31
     subst c31
     have H1 : ((laws_toDiagonalS.f kj12 l1).bind fun t355 => ((laws_eqDiagonalS.f kj12 t345 t355).bind fun t358 => (if t358 = true then ((laws_markDiagonalS.f kj12 t345 1).bind fun bt359 => (if bt359.1 < 0 then (laws_FnExactQuiddityChange.j1 kj12 a0 l1 t341 t344 t350 true a2_0 a2_1) else ((laws_eqIntS.f kj12 t350 t341).bind fun t361 => (if t361 = true then (laws_FnExactQuiddityChange.j1 kj12 a0 l1 t341 t344 t350 (t353 != t344) a2_0 a2_1) else (laws_FnExactQuiddityChange.j1 kj12 a0 l1 t341 t344 t350 true a2_0 a2_1))))) else (some false)))) = some r := by rw [if_neg (show ¬ (false = true) by decide)] at H; exact H
     clear H
     have H := H1
     clear H1
     replace H := Option.bind_eq_some_iff.mp H
     obtain ⟨t355, A320, H⟩ := H
     replace H : ((laws_eqDiagonalS.f kj12 t345 t355).bind fun t358 => (if t358 = true then ((laws_markDiagonalS.f kj12 t345 1).bind fun bt359 => (if bt359.1 < 0 then (laws_FnExactQuiddityChange.j1 kj12 a0 l1 t341 t344 t350 true a2_0 a2_1) else ((laws_eqIntS.f kj12 t350 t341).bind fun t361 => (if t361 = true then (laws_FnExactQuiddityChange.j1 kj12 a0 l1 t341 t344 t350 (t353 != t344) a2_0 a2_1) else (laws_FnExactQuiddityChange.j1 kj12 a0 l1 t341 t344 t350 true a2_0 a2_1))))) else (some false))) = some r := H
     have A32 := Aside0.mk A320
     clear A320
     replace H := Option.bind_eq_some_iff.mp H
     obtain ⟨t358, A330, H⟩ := H
     replace H : (if t358 = true then ((laws_markDiagonalS.f kj12 t345 1).bind fun bt359 => (if bt359.1 < 0 then (laws_FnExactQuiddityChange.j1 kj12 a0 l1 t341 t344 t350 true a2_0 a2_1) else ((laws_eqIntS.f kj12 t350 t341).bind fun t361 => (if t361 = true then (laws_FnExactQuiddityChange.j1 kj12 a0 l1 t341 t344 t350 (t353 != t344) a2_0 a2_1) else (laws_FnExactQuiddityChange.j1 kj12 a0 l1 t341 t344 t350 true a2_0 a2_1))))) else (some false)) = some r := H
     have A33 := Aside0.mk A330
     clear A330
     by_cases c34 : t358 = true
     ·subst c34
      have H1 : ((laws_markDiagonalS.f kj12 t345 1).bind fun bt359 => (if bt359.1 < 0 then (laws_FnExactQuiddityChange.j1 kj12 a0 l1 t341 t344 t350 true a2_0 a2_1) else ((laws_eqIntS.f kj12 t350 t341).bind fun t361 => (if t361 = true then (laws_FnExactQuiddityChange.j1 kj12 a0 l1 t341 t344 t350 (t353 != t344) a2_0 a2_1) else (laws_FnExactQuiddityChange.j1 kj12 a0 l1 t341 t344 t350 true a2_0 a2_1))))) = some r := by rw [if_pos rfl] at H; exact H
      clear H
      have H := H1
      clear H1
      replace H := Option.bind_eq_some_iff.mp H
      obtain ⟨⟨t359, t360⟩, A350, H⟩ := H
      replace H : (if t359 < 0 then (laws_FnExactQuiddityChange.j1 kj12 a0 l1 t341 t344 t350 true a2_0 a2_1) else ((laws_eqIntS.f kj12 t350 t341).bind fun t361 => (if t361 = true then (laws_FnExactQuiddityChange.j1 kj12 a0 l1 t341 t344 t350 (t353 != t344) a2_0 a2_1) else (laws_FnExactQuiddityChange.j1 kj12 a0 l1 t341 t344 t350 true a2_0 a2_1)))) = some r := H
      have A35 := Aside0.mk A350
      clear A350
      have HC36 := Aside0.mk H
      clear H
      go_upto_region 14 with (first | ((with_reducible refine gate_callee (f := 22) rfl ?_); refine goesL_ (some 53) rfl rfl Try.func22 (by kernel_rfl) rfl #[.slice A1 l1.length c1] rfl amp_ ?_; (with_reducible refine (laws_toDiagonalS.calls kj12 _ _ l1 t355 _ ?side1 ?side2 A32.out).mono ?_); (case side1 => repeat (first | exact (Kd.C_below HR1.out HB.out) | (with_reducible refine Kd.C_alloc ?_ _) | (with_reducible refine Kd.C_drewN ?_ _) | (with_reducible refine Kd.C_drew ?_))); (case side2 => exact HC1.out); rintro e w37 ⟨v356, rfl, ho0, hb⟩; refine ⟨_, rfl, ?_⟩; have n0_ := Aside0.mk (Kd.R_below (ra_ HO_8.out) hb); have n1_ := Aside0.mk (Kd.R_elder' (ra_ HO_10.out) (Kd.R_base ho0) hb); have n2_ := Aside0.mk (Kd.R_below (ra_ HO_11.out) hb); have n3_ := Aside0.mk (Kd.R_lower (Kd.R_new' ho0 (Kd.R_lt (ra_ HO_10.out))) (below_size (by repeat (first | (with_reducible first | exact HB.out | apply below_alloc | apply pw_below_drewN | apply below_drew1 | refine below_set ?_ GE334.out) | exact HB.out)))); have n4_ := Aside0.mk (blk_below (g := gb334) (o := .cells #[.int .i64 a2_0, .int .i64 a2_1] 35 (0, 0)) (bk_ BK334.out) hb); have n5_ := Aside0.mk (below_step (by repeat (first | (with_reducible first | exact HB.out | apply below_alloc | apply pw_below_drewN | apply below_drew1 | refine below_set ?_ GE334.out) | exact HB.out)) hb); clear HO_8; clear HO_10; clear HO_11; clear BK334; clear HB; have HO_8 := n0_; have HO_10 := n1_; have HO_11 := n2_; have HO357 := n3_; have BK334 := n4_; have HB := n5_; clear n0_ n1_ n2_ n3_ n4_ n5_; (try clear hb); (try clear hb2); (try clear hk); (try clear hi); (try clear ho0); obtain ⟨Ao38, co38, eo38⟩ := Kd.R_slice HO357.out; subst eo38) | ((with_reducible refine gate_callee (f := 17) rfl ?_); refine goesL_ (some 54) rfl rfl Try.func17 (by kernel_rfl) rfl #[.slice Ao23 t345.length co23, .slice Ao38 t355.length co38] rfl amp_ ?_; (with_reducible refine (laws_eqDiagonalS.calls kj12 _ _ t345 _ _ t355 true _ ?side1 ?side2 ?side3 ?side4 A33.out).mono ?_); (case side1 => repeat (first | exact (Kd.R_reads' HO_10.out).2.2 | (with_reducible refine Kd.C_alloc ?_ _) | (with_reducible refine Kd.C_drewN ?_ _) | (with_reducible refine Kd.C_drew ?_))); (case side2 => exact (Kd.R_reads' HO_10.out).2.1); (case side3 => repeat (first | exact (Kd.R_reads' HO357.out).2.2 | (with_reducible refine Kd.C_alloc ?_ _) | (with_reducible refine Kd.C_drewN ?_ _) | (with_reducible refine Kd.C_drew ?_))); (case side4 => exact (Kd.R_reads' HO357.out).2.1); rintro e w39 ⟨rfl, hb⟩; refine ⟨_, rfl, ?_⟩; have n0_ := Aside0.mk (Kd.R_below (ra_ HO_8.out) hb); have n1_ := Aside0.mk (Kd.R_below (ra_ HO_10.out) hb); have n2_ := Aside0.mk (Kd.R_below (ra_ HO_11.out) hb); have n3_ := Aside0.mk (Kd.R_below (ra_ HO357.out) hb); have n4_ := Aside0.mk (blk_below (g := gb334) (o := .cells #[.int .i64 a2_0, .int .i64 a2_1] 35 (0, 0)) (bk_ BK334.out) hb); have n5_ := Aside0.mk (below_step (by repeat (first | (with_reducible first | exact HB.out | apply below_alloc | apply pw_below_drewN | apply below_drew1 | refine below_set ?_ GE334.out) | exact HB.out)) hb); clear HO_8; clear HO_10; clear HO_11; clear HO357; clear BK334; clear HB; have HO_8 := n0_; have HO_10 := n1_; have HO_11 := n2_; have HO357 := n3_; have BK334 := n4_; have HB := n5_; clear n0_ n1_ n2_ n3_ n4_ n5_; (try clear hb); (try clear hb2); (try clear hk); (try clear hi)) | ((with_reducible refine gate_callee (f := 18) rfl ?_); refine goesL_ (some 58) rfl rfl Try.func18 (by kernel_rfl) rfl #[.slice Ao23 t345.length co23, .int .i64 1] rfl amp_ ?_; (with_reducible refine (laws_markDiagonalS.calls kj12 (fun k_ => some k_ = (.slice Ao23 t345.length co23 : Value).ownBlock) (.slice Ao23 t345.length co23) t345 1 t359 t360 w _ ?side1 ?side2 A35.out).mono ?_); (case side1 => repeat (first | (with_reducible first | exact HB.out | apply below_alloc | apply pw_below_drewN | apply below_drew1 | refine below_set ?_ GE334.out) | exact HB.out)); (case side2 => exact Kd.R_tight rfl HO_10.out); rintro e w40 ⟨rfl, hy0, hb, hkp⟩; refine ⟨_, rfl, ?_⟩; have n0_ := Aside0.mk (Kd.R_mono (ok' := fun k_ => some k_ ≠ (v351 : Value).ownBlock) (Kd.R_keptB ((Kd.R_apart' HO_8.out (Kd.R_typed HO_10.out) (by decide))) hkp (fun k_ hk_ hs_ => (hk_.2) hs_)) (fun k_ hk_ => hk_.1.1)); have n1_ := Aside0.mk (Kd.R_reok rfl hy0 (fun k_ e_ => HO_10.out.1 k_ e_)); have n2_ := Aside0.mk (Kd.R_mono (ok' := fun k_ => some k_ ≠ (v342 : Value).ownBlock) (Kd.R_keptB ((Kd.R_apart' HO_11.out (Kd.R_typed HO_10.out) (by decide))) hkp (fun k_ hk_ hs_ => (hk_.2) hs_)) (fun k_ hk_ => hk_.1.1)); have n3_ := Aside0.mk (blk_kept (bk_ BK334.out) hkp (fun hs_ => (fun e_ => (Kd.R_ne HO_10.out BK334.out (by decide)) e_) hs_)); have n4_ := Aside0.mk (Kd.R_mono (ok' := fun k_ => some k_ ≠ (.slice Ao23 t345.length co23 : Value).ownBlock) (Kd.R_keptB (HO357.out) hkp (fun k_ hk_ hs_ => (hk_.2) hs_)) (fun k_ hk_ => hk_.1.2)); have n5_ := Aside0.mk (hb); clear HO_8; clear HO_10; clear HO_11; clear BK334; clear HO357; clear HB; have HO_8 := n0_; have HO_10 := n1_; have HO_11 := n2_; have BK334 := n3_; have HO357 := n4_; have HB := n5_; clear n0_ n1_ n2_ n3_ n4_ n5_; (try clear hb); (try clear hkp); (try clear hy0)))
      (try simp only [Act.put, List.setIfInBounds_toArray, List.set_cons_zero, List.set_cons_succ])
      go_cut [71] (fun v71 wc => ∃ (kq : Nat) (x71_35 : Bool), v71 = .bool x71_35 ∧ Aside0 (laws_FnExactQuiddityChange.j1 kq a0 l1 t341 t344 t350 x71_35 a2_0 a2_1 = some r) ∧ Aside0 (kq ≤ kj12) ∧ Aside0 (Kd.R (Kd.int .i64) 3 wc w.heap.size (fun k_ => some k_ ≠ (v351 : Value).ownBlock) v342 t341) ∧ Aside0 (Kd.R (Kd.int .i64) 3 wc w.heap.size (fun k_ => some k_ ≠ (v342 : Value).ownBlock) v351 t350) ∧ Aside0 (wc.heap[gb334]? = some (.cells #[.int .i64 a2_0, .int .i64 a2_1] 35 (0, 0))) ∧ Aside0 (Below w.heap.size w wc))
      case first =>
       have H := HC36.out
       clear HC36
       by_cases c41 : t359 < 0
       ·rw [if_pos c41] at H
        have c41b0 : decide (t359 < 0) = true := decide_eq_true c41
        clear c41
        (first | rw [c41b0] | (simp only [i64_w, i32_w]; rw [c41b0]) | skip)
        have H' := Aside0.mk H
        clear H
        go_wp2
        go_meet
        case rel => exact ⟨_, (true), (by first | rfl | (simp; done) | (simp [*]; done)), H', ⟨by have := HJ12.out; first | omega | exact Nat.le_refl _⟩, ⟨ra_ HO_8.out⟩, ⟨ra_ HO_11.out⟩, ⟨bk_ BK334.out⟩, ⟨by repeat (first | (with_reducible first | exact HB.out | apply below_alloc | apply pw_below_drewN | apply below_drew1 | refine below_set ?_ GE334.out) | exact HB.out)⟩⟩
       ·rw [if_neg c41] at H
        have c41b0 : decide (t359 < 0) = false := decide_eq_false c41
        clear c41
        (first | rw [c41b0] | (simp only [i64_w, i32_w]; rw [c41b0]) | skip)
        replace H := Option.bind_eq_some_iff.mp H
        obtain ⟨t361, A420, H⟩ := H
        replace H : (if t361 = true then (laws_FnExactQuiddityChange.j1 kj12 a0 l1 t341 t344 t350 (t353 != t344) a2_0 a2_1) else (laws_FnExactQuiddityChange.j1 kj12 a0 l1 t341 t344 t350 true a2_0 a2_1)) = some r := H
        have A42 := Aside0.mk A420
        clear A420
        by_cases c43 : t361 = true
        ·subst c43
         have H1 : (laws_FnExactQuiddityChange.j1 kj12 a0 l1 t341 t344 t350 (t353 != t344) a2_0 a2_1) = some r := by rw [if_pos rfl] at H; exact H
         clear H
         have H := H1
         clear H1
         have H' := Aside0.mk H
         clear H
         obtain ⟨Ao44, co44, eo44⟩ := Kd.R_slice HO_11.out
         subst eo44
         obtain ⟨Ao45, co45, eo45⟩ := Kd.R_slice HO_8.out
         subst eo45
         go_wp2_with (first | (go_at_call 30; (with_reducible refine (laws_eqIntS.calls kj12 _ _ t350 _ _ t341 true _ ?side1 ?side2 ?side3 ?side4 A42.out).mono ?_); (case side1 => repeat (first | exact (Kd.R_reads' HO_11.out).2.2 | (with_reducible refine Kd.C_alloc ?_ _) | (with_reducible refine Kd.C_drewN ?_ _) | (with_reducible refine Kd.C_drew ?_))); (case side2 => exact (Kd.R_reads' HO_11.out).2.1); (case side3 => repeat (first | exact (Kd.R_reads' HO_8.out).2.2 | (with_reducible refine Kd.C_alloc ?_ _) | (with_reducible refine Kd.C_drewN ?_ _) | (with_reducible refine Kd.C_drew ?_))); (case side4 => exact (Kd.R_reads' HO_8.out).2.1); rintro e w' ⟨rfl, ⟨nd, rfl⟩⟩))
         go_meet
         case rel => exact ⟨_, ((t353 != t344)), (by first | rfl | (simp; done) | (simp [*]; done)), H', ⟨by have := HJ12.out; first | omega | exact Nat.le_refl _⟩, ⟨ra_ HO_8.out⟩, ⟨ra_ HO_11.out⟩, ⟨bk_ BK334.out⟩, ⟨by repeat (first | (with_reducible first | exact HB.out | apply below_alloc | apply pw_below_drewN | apply below_drew1 | refine below_set ?_ GE334.out) | exact HB.out)⟩⟩
        ·replace c43 := Bool.eq_false_iff.mpr c43
         subst c43
         have H1 : (laws_FnExactQuiddityChange.j1 kj12 a0 l1 t341 t344 t350 true a2_0 a2_1) = some r := by rw [if_neg (show ¬ (false = true) by decide)] at H; exact H
         clear H
         have H := H1
         clear H1
         have H' := Aside0.mk H
         clear H
         obtain ⟨Ao46, co46, eo46⟩ := Kd.R_slice HO_11.out
         subst eo46
         obtain ⟨Ao47, co47, eo47⟩ := Kd.R_slice HO_8.out
         subst eo47
         go_wp2_with (first | (go_at_call 30; (with_reducible refine (laws_eqIntS.calls kj12 _ _ t350 _ _ t341 false _ ?side1 ?side2 ?side3 ?side4 A42.out).mono ?_); (case side1 => repeat (first | exact (Kd.R_reads' HO_11.out).2.2 | (with_reducible refine Kd.C_alloc ?_ _) | (with_reducible refine Kd.C_drewN ?_ _) | (with_reducible refine Kd.C_drew ?_))); (case side2 => exact (Kd.R_reads' HO_11.out).2.1); (case side3 => repeat (first | exact (Kd.R_reads' HO_8.out).2.2 | (with_reducible refine Kd.C_alloc ?_ _) | (with_reducible refine Kd.C_drewN ?_ _) | (with_reducible refine Kd.C_drew ?_))); (case side4 => exact (Kd.R_reads' HO_8.out).2.1); rintro e w' ⟨rfl, ⟨nd, rfl⟩⟩))
         go_meet
         case rel => exact ⟨_, (true), (by first | rfl | (simp; done) | (simp [*]; done)), H', ⟨by have := HJ12.out; first | omega | exact Nat.le_refl _⟩, ⟨ra_ HO_8.out⟩, ⟨ra_ HO_11.out⟩, ⟨bk_ BK334.out⟩, ⟨by repeat (first | (with_reducible first | exact HB.out | apply below_alloc | apply pw_below_drewN | apply below_drew1 | refine below_set ?_ GE334.out) | exact HB.out)⟩⟩
      case rest =>
       clear HC36
       try clear c1
       try clear c2
       try clear p2
       try clear c3
       try clear c4
       try clear c5
       try clear c5b0
       try clear c6
       try clear c17
       try clear c18
       try clear c20
       try clear c22
       try clear c25
       try clear c26
       try clear c28
       try clear c29
       try clear c30
       try clear c31
       try clear c34
       try clear c41
       try clear c41b0
       try clear c43
       try clear hcz21_0
       try clear hcz21_1
       try clear hfz21_0
       try clear hfz21_1
       try clear p2
       obtain ⟨kq, x71_35, rfl, HA, HJ35, HO_8, HO_11, BK334, HB⟩ := hcut
       cases kq with
       | zero => exact absurd HA.out (by simp [laws_FnExactQuiddityChange.j1])
       | succ kj35 =>
        have H := HA.out
        clear HA
        simp only [laws_FnExactQuiddityChange.j1] at H
        by_cases c48 : x71_35 = true
        ·subst c48
         have H1 : (some false) = some r := by rw [if_pos rfl] at H; exact H
         clear H
         have H := H1
         clear H1
         exact absurd (H.trans (congrArg some htrue.out)) (by decide)
        ·replace c48 := Bool.eq_false_iff.mpr c48
         subst c48
         have H1 : ((laws_markIntS.f kj35 t350 1).bind fun bt362 => ((laws_heldIntS.f kj35 bt362.2 1).bind fun t364 => (if t364 < 0 then (some false) else (if t364 = bt362.1 then ((laws_toDiagonalS.f kj35 l1).bind fun t365 => ((laws_toDiagonal.f a2_0 a2_1).bind fun bt368 => ((impl_QuiddityChange.f kj35 a0 t365 bt368.1 bt368.2).bind fun bt370 => ((laws_eqIntS.f kj35 bt370.1 t341).bind fun t374 => (if t374 = true then (laws_FnExactQuiddityChange.j2 kj35 bt362.2 bt362.1 (bt370.2 != t344)) else (laws_FnExactQuiddityChange.j2 kj35 bt362.2 bt362.1 true)))))) else (some false))))) = some r := by rw [if_neg (show ¬ (false = true) by decide)] at H; exact H
         clear H
         have H := H1
         clear H1
         replace H := Option.bind_eq_some_iff.mp H
         obtain ⟨⟨t362, t363⟩, A490, H⟩ := H
         replace H : ((laws_heldIntS.f kj35 t363 1).bind fun t364 => (if t364 < 0 then (some false) else (if t364 = t362 then ((laws_toDiagonalS.f kj35 l1).bind fun t365 => ((laws_toDiagonal.f a2_0 a2_1).bind fun bt368 => ((impl_QuiddityChange.f kj35 a0 t365 bt368.1 bt368.2).bind fun bt370 => ((laws_eqIntS.f kj35 bt370.1 t341).bind fun t374 => (if t374 = true then (laws_FnExactQuiddityChange.j2 kj35 t363 t362 (bt370.2 != t344)) else (laws_FnExactQuiddityChange.j2 kj35 t363 t362 true)))))) else (some false)))) = some r := H
         have A49 := Aside0.mk A490
         clear A490
         replace H := Option.bind_eq_some_iff.mp H
         obtain ⟨t364, A500, H⟩ := H
         replace H : (if t364 < 0 then (some false) else (if t364 = t362 then ((laws_toDiagonalS.f kj35 l1).bind fun t365 => ((laws_toDiagonal.f a2_0 a2_1).bind fun bt368 => ((impl_QuiddityChange.f kj35 a0 t365 bt368.1 bt368.2).bind fun bt370 => ((laws_eqIntS.f kj35 bt370.1 t341).bind fun t374 => (if t374 = true then (laws_FnExactQuiddityChange.j2 kj35 t363 t362 (bt370.2 != t344)) else (laws_FnExactQuiddityChange.j2 kj35 t363 t362 true)))))) else (some false))) = some r := H
         have A50 := Aside0.mk A500
         clear A500
         by_cases c51 : t364 < 0
         ·rw [if_pos c51] at H
          have c51b0 : decide (t364 < 0) = true := decide_eq_true c51
          clear c51
          exact absurd (H.trans (congrArg some htrue.out)) (by decide)
         ·rw [if_neg c51] at H
          have c51b0 : decide (t364 < 0) = false := decide_eq_false c51
          clear c51
          by_cases c52 : t364 = t362
          ·rw [if_pos c52] at H
           have c52b0 : (t364 == t362) = true := beq_iff_eq.mpr c52
           have c52b1 : (t364 != t362) = false := bne_eq_false_iff_eq.mpr c52
           clear c52
           replace H := Option.bind_eq_some_iff.mp H
           obtain ⟨t365, A530, H⟩ := H
           replace H : ((laws_toDiagonal.f a2_0 a2_1).bind fun bt368 => ((impl_QuiddityChange.f kj35 a0 t365 bt368.1 bt368.2).bind fun bt370 => ((laws_eqIntS.f kj35 bt370.1 t341).bind fun t374 => (if t374 = true then (laws_FnExactQuiddityChange.j2 kj35 t363 t362 (bt370.2 != t344)) else (laws_FnExactQuiddityChange.j2 kj35 t363 t362 true))))) = some r := H
           have A53 := Aside0.mk A530
           clear A530
           replace H := Option.bind_eq_some_iff.mp H
           obtain ⟨⟨t368, t369⟩, A540, H⟩ := H
           replace H : ((impl_QuiddityChange.f kj35 a0 t365 t368 t369).bind fun bt370 => ((laws_eqIntS.f kj35 bt370.1 t341).bind fun t374 => (if t374 = true then (laws_FnExactQuiddityChange.j2 kj35 t363 t362 (bt370.2 != t344)) else (laws_FnExactQuiddityChange.j2 kj35 t363 t362 true)))) = some r := H
           have A54 := Aside0.mk A540
           clear A540
           replace H := Option.bind_eq_some_iff.mp H
           obtain ⟨⟨t370, t373⟩, A550, H⟩ := H
           replace H : ((laws_eqIntS.f kj35 t370 t341).bind fun t374 => (if t374 = true then (laws_FnExactQuiddityChange.j2 kj35 t363 t362 (t373 != t344)) else (laws_FnExactQuiddityChange.j2 kj35 t363 t362 true))) = some r := H
           have A55 := Aside0.mk A550
           clear A550
           have HC56 := Aside0.mk H
           clear H
           obtain ⟨Ao57, co57, eo57⟩ := Kd.R_slice HO_11.out
           subst eo57
           try go_wp2_with (first | ((with_reducible refine gate_callee (f := 31) rfl ?_); refine goesL_ (some 74) rfl rfl Try.func31 (by kernel_rfl) rfl #[.slice Ao57 t350.length co57, .int .i64 1] rfl amp_ ?_; (with_reducible refine (laws_markIntS.calls kj35 (fun k_ => some k_ = (.slice Ao57 t350.length co57 : Value).ownBlock) (.slice Ao57 t350.length co57) t350 1 t362 t363 w _ ?side1 ?side2 A49.out).mono ?_); (case side1 => repeat (first | (with_reducible first | exact HB.out | apply below_alloc | apply pw_below_drewN | apply below_drew1 | refine below_set ?_ GE334.out) | exact HB.out)); (case side2 => exact Kd.R_tight rfl HO_11.out); rintro e w58 ⟨rfl, hy0, hb, hkp⟩; refine ⟨_, rfl, ?_⟩; have n0_ := Aside0.mk (Kd.R_mono (ok' := fun k_ => some k_ ≠ (.slice Ao57 t350.length co57 : Value).ownBlock) (Kd.R_keptB (HO_8.out) hkp (fun k_ hk_ hs_ => (hk_) hs_)) (fun k_ hk_ => hk_.1)); have n1_ := Aside0.mk (Kd.R_reok rfl hy0 (fun k_ e_ => HO_11.out.1 k_ e_)); have n2_ := Aside0.mk (blk_kept (bk_ BK334.out) hkp (fun hs_ => (fun e_ => (Kd.R_ne HO_11.out BK334.out (by decide)) e_) hs_)); have n3_ := Aside0.mk (hb); clear HO_8; clear HO_11; clear BK334; clear HB; have HO_8 := n0_; have HO_11 := n1_; have BK334 := n2_; have HB := n3_; clear n0_ n1_ n2_ n3_; (try clear hb); (try clear hkp); (try clear hy0)) | ((with_reducible refine gate_callee (f := 32) rfl ?_); refine goesL_ (some 77) rfl rfl Try.func32 (by kernel_rfl) rfl #[.slice Ao57 t363.length co57, .int .i64 1] rfl (by (try simp only [List.map_toArray, List.map_cons, List.map_nil]); first | done | (rw [show t363.length = t350.length from (Kd.R_reads' HO_11.out).1.symm] <;> rfl) | rfl | (simp only [List.length_drop, List.length_take]; rfl)) ?_; (with_reducible refine (laws_heldIntS.calls kj35 _ _ t363 1 t364 _ ?side1 ?side2 A50.out).mono ?_); (case side1 => repeat (first | exact (Kd.R_reads' HO_11.out).2.2 | (with_reducible refine Kd.C_alloc ?_ _) | (with_reducible refine Kd.C_drewN ?_ _) | (with_reducible refine Kd.C_drew ?_))); (case side2 => rw [show t363.length = t350.length from (Kd.R_reads' HO_11.out).1.symm]; exact (Kd.R_reads' HO_11.out).2.1); rintro e w' ⟨rfl, ⟨nd, rfl⟩⟩; refine ⟨_, rfl, ?_⟩))
           (try (rw [drewN_self w58]; generalize hq_ : World.drewN w58 _ = w58; have n0_ : Aside0 (Kd.R (Kd.int .i64) 3 w58 w.heap.size (fun k_ => some k_ ≠ (v342 : Value).ownBlock) (.slice Ao57 t350.length co57) t363) := ⟨by rw [← hq_]; exact (ra_ HO_11.out)⟩; have n1_ : Aside0 (Kd.R (Kd.int .i64) 3 w58 w.heap.size (fun k_ => some k_ ≠ (.slice Ao57 t350.length co57 : Value).ownBlock) v342 t341) := ⟨by rw [← hq_]; exact (ra_ HO_8.out)⟩; have n2_ : Aside0 (w58.heap[gb334]? = some (.cells #[.int .i64 a2_0, .int .i64 a2_1] 35 (0, 0))) := ⟨by rw [← hq_]; exact (bk_ BK334.out)⟩; have n3_ : Aside0 (Below w.heap.size w w58) := ⟨by rw [← hq_]; exact (by repeat (first | (with_reducible first | exact HB.out | apply below_alloc | apply pw_below_drewN | apply below_drew1 | refine below_set ?_ GE334.out) | exact HB.out))⟩; clear HO_11 HO_8 BK334 HB hq_; have HO_11 := n0_; have HO_8 := n1_; have BK334 := n2_; have HB := n3_; clear n0_ n1_ n2_ n3_))
           have n0_ := Aside0.mk (Kd.R_drew HO_8.out)
           have n1_ := Aside0.mk (Kd.R_drew HO_11.out)
           have n2_ := Aside0.mk (blk_drew BK334.out)
           have n3_ := Aside0.mk (below_drew1 HB.out)
           clear HO_8
           clear HO_11
           clear BK334
           clear HB
           have HO_8 := n0_
           have HO_11 := n1_
           have BK334 := n2_
           have HB := n3_
           clear n0_ n1_ n2_ n3_
           refine start_ (n := 11) (S := fun w' => w'.cell? ⟨gb334, 0, none⟩ = some (.int .i64 a2_0) ∧ w'.cell? ⟨gb334, 1, none⟩ = some (.int .i64 a2_1)) (ds := []) #[false, false, false, false, false, false, false, false, false, false, false] (by kernel_rfl) rfl rfl ⟨(blk_cell BK334.out 0).trans rfl, (blk_cell BK334.out 1).trans rfl⟩ (fun hHeld => ?_); refine with_tabW laws_FnExactQuiddityChange.tab24 laws_FnExactQuiddityChange.bits24 (fun HT_ HW_ => ?_)
           generalize w58.drew = w59 at HO_8 HO_11 BK334 HB hHeld ⊢
           refine pure_ (i := 0) (N := some 84) (v := ?_) (a' := ?_) #[true, false, false, false, false, false, false, false, false, false, false] rfl rfl (any_of HT_.out (by kernel_rfl)) (fun _ _ _ h => h) (Or.inl ⟨by rfl, ?_⟩) ?_ ?_
           rotate_left
           ·intro w'
            go_simp
            with_reducible rfl
           rotate_left
           ·simp only [Act.put, List.setIfInBounds_toArray, List.set_cons_zero, List.set_cons_succ, i64_w, i32_w]
            rfl
           refine pure_ (i := 1) (N := some 85) (v := ?_) (a' := ?_) #[true, true, false, false, false, false, false, false, false, false, false] rfl rfl (any_of HT_.out (by kernel_rfl)) (fun _ _ _ h => h) (Or.inl ⟨by rfl, ?_⟩) ?_ ?_
           rotate_left
           ·intro w'
            go_simp
            with_reducible rfl
           rotate_left
           ·simp only [Act.put, List.setIfInBounds_toArray, List.set_cons_zero, List.set_cons_succ, i64_w, i32_w]
            rfl
           refine take_ (i := 3) (N := some 87) (v := ?_) (a' := ?_) #[true, true, false, true, false, false, false, false, false, false, false] rfl rfl (take_ofW HT_.out HW_.out (by kernel_rfl)) (fun _ _ _ h => h) (Or.inl ⟨by rfl, ?_⟩) hHeld ?_ ?_
           rotate_left
           ·rintro w' ⟨s0, s1⟩
            go_simp
            with_reducible rfl
           rotate_left
           ·simp only [Act.put, List.setIfInBounds_toArray, List.set_cons_zero, List.set_cons_succ, i64_w, i32_w]
            rfl
           refine one_ (i := 2) (N := some 86) #[true, true, true, true, false, false, false, false, false, false, false] rfl rfl (one_of HT_.out (by kernel_rfl)) (by decide) (fun K hK => ?_)
           refine goes_ Try.func22 (by kernel_rfl) rfl #[.slice A1 l1.length c1] (by rfl) rfl rfl amp_ ?_
           with_reducible refine (laws_toDiagonalS.calls kj35 _ _ l1 t365 _ ?side1 ?side2 A53.out).mono ?_
           (case side1 => repeat (first | exact (Kd.C_below HR1.out HB.out) | (with_reducible refine Kd.C_alloc ?_ _) | (with_reducible refine Kd.C_drewN ?_ _) | (with_reducible refine Kd.C_drew ?_)))
           (case side2 => exact HC1.out)
           rintro e w60 ⟨v366, rfl, ho0, hb⟩
           refine ⟨_, rfl, ?_⟩
           have n0_ := Aside0.mk (Kd.R_below (ra_ HO_8.out) hb)
           have n1_ := Aside0.mk (Kd.R_below (ra_ HO_11.out) hb)
           have n2_ := Aside0.mk (Kd.R_lower ho0 (below_size (by repeat (first | (with_reducible first | exact HB.out | apply below_alloc | apply pw_below_drewN | apply below_drew1 | refine below_set ?_ GE334.out) | exact HB.out))))
           have n3_ := Aside0.mk (blk_below (g := gb334) (o := .cells #[.int .i64 a2_0, .int .i64 a2_1] 35 (0, 0)) (bk_ BK334.out) hb)
           have n4_ := Aside0.mk (below_step (by repeat (first | (with_reducible first | exact HB.out | apply below_alloc | apply pw_below_drewN | apply below_drew1 | refine below_set ?_ GE334.out) | exact HB.out)) hb)
           clear HO_8
           clear HO_11
           clear BK334
           clear HB
           have HO_8 := n0_
           have HO_11 := n1_
           have HO367 := n2_
           have BK334 := n3_
           have HB := n4_
           clear n0_ n1_ n2_ n3_ n4_
           (try clear hb)
           (try clear hb2)
           (try clear hk)
           (try clear hi)
           (try clear ho0)
           refine hK.out _ _ ⟨(blk_cell BK334.out 0).trans rfl, (blk_cell BK334.out 1).trans rfl⟩ (fun hHeld => ?_)
           clear hK K
           refine norm_ (a' := ?_) ?_ ?_
           rotate_left
           ·show Act.put _ (some 86) _ = _
            simp only [Act.put, List.setIfInBounds_toArray, List.set_cons_zero, List.set_cons_succ, i64_w, i32_w]
            rfl
           refine one_ (i := 4) (N := some 88) #[true, true, true, true, true, false, false, false, false, false, false] rfl rfl (one_of HT_.out (by kernel_rfl)) (by decide) (fun K hK => ?_)
           refine goes_ Try.func25 (by kernel_rfl) rfl #[.agg #[.int .i64 a2_0, .int .i64 a2_1]] (by rfl) rfl rfl amp_ ?_
           with_reducible refine (laws_toDiagonal.calls a2_0 a2_1 t368 t369 _ A54.out).mono ?_
           rintro e w61 ⟨rfl, hb⟩
           refine ⟨_, rfl, ?_⟩
           have n0_ := Aside0.mk (Kd.R_below (ra_ HO_8.out) hb)
           have n1_ := Aside0.mk (Kd.R_below (ra_ HO_11.out) hb)
           have n2_ := Aside0.mk (Kd.R_below (ra_ HO367.out) hb)
           have n3_ := Aside0.mk (blk_below (g := gb334) (o := .cells #[.int .i64 a2_0, .int .i64 a2_1] 35 (0, 0)) (bk_ BK334.out) hb)
           have n4_ := Aside0.mk (below_step (by repeat (first | (with_reducible first | exact HB.out | apply below_alloc | apply pw_below_drewN | apply below_drew1 | refine below_set ?_ GE334.out) | exact HB.out)) hb)
           clear HO_8
           clear HO_11
           clear HO367
           clear BK334
           clear HB
           have HO_8 := n0_
           have HO_11 := n1_
           have HO367 := n2_
           have BK334 := n3_
           have HB := n4_
           clear n0_ n1_ n2_ n3_ n4_
           (try clear hb)
           (try clear hb2)
           (try clear hk)
           (try clear hi)
           obtain ⟨Ao62, co62, eo62⟩ := Kd.R_slice HO367.out
           (first | subst eo62 | (injection eo62 with f1_ f2_ f3_; have f4_ := f1_.symm; have f5_ := f3_.symm; clear f1_ f2_ f3_; subst f4_; subst f5_))
           refine hK.out _ _ ⟨(blk_cell BK334.out 0).trans rfl, (blk_cell BK334.out 1).trans rfl⟩ (fun hHeld => ?_)
           clear hK K
           refine norm_ (a' := ?_) ?_ ?_
           rotate_left
           ·show Act.put _ (some 88) _ = _
            simp only [Act.put, List.setIfInBounds_toArray, List.set_cons_zero, List.set_cons_succ, i64_w, i32_w]
            rfl
           refine one_ (i := 5) (N := some 89) #[true, true, true, true, true, true, false, false, false, false, false] rfl rfl (one_of HT_.out (by kernel_rfl)) (by decide) (fun K hK => ?_)
           refine goes_ Try.func29 (by kernel_rfl) rfl #[.int .i64 a0, .slice Ao62 t365.length co62, .agg #[.int .i64 t368, .int .i64 t369]] (by rfl) rfl rfl amp_ ?_
           with_reducible refine (impl_QuiddityChange.calls kj35 a0 _ _ t365 t368 t369 t370 t373 _ ?side1 ?side2 A55.out).mono ?_
           (case side1 => repeat (first | exact (Kd.R_reads' HO367.out).2.2 | (with_reducible refine Kd.C_alloc ?_ _) | (with_reducible refine Kd.C_drewN ?_ _) | (with_reducible refine Kd.C_drew ?_)))
           (case side2 => exact (Kd.R_reads' HO367.out).2.1)
           rintro e w63 ⟨v371, rfl, ho0, hb⟩
           refine ⟨_, rfl, ?_⟩
           have n0_ := Aside0.mk (Kd.R_elder' (ra_ HO_8.out) (Kd.R_base ho0) hb)
           have n1_ := Aside0.mk (Kd.R_elder' (ra_ HO_11.out) (Kd.R_base ho0) hb)
           have n2_ := Aside0.mk (Kd.R_below (ra_ HO367.out) hb)
           have n3_ := Aside0.mk (Kd.R_lower (Kd.R_new' (Kd.R_new' ho0 (Kd.R_lt (ra_ HO_8.out))) (Kd.R_lt (ra_ HO_11.out))) (below_size (by repeat (first | (with_reducible first | exact HB.out | apply below_alloc | apply pw_below_drewN | apply below_drew1 | refine below_set ?_ GE334.out) | exact HB.out))))
           have n4_ := Aside0.mk (blk_below (g := gb334) (o := .cells #[.int .i64 a2_0, .int .i64 a2_1] 35 (0, 0)) (bk_ BK334.out) hb)
           have n5_ := Aside0.mk (below_step (by repeat (first | (with_reducible first | exact HB.out | apply below_alloc | apply pw_below_drewN | apply below_drew1 | refine below_set ?_ GE334.out) | exact HB.out)) hb)
           clear HO_8
           clear HO_11
           clear HO367
           clear BK334
           clear HB
           have HO_8 := n0_
           have HO_11 := n1_
           have HO367 := n2_
           have HO372 := n3_
           have BK334 := n4_
           have HB := n5_
           clear n0_ n1_ n2_ n3_ n4_ n5_
           (try clear hb)
           (try clear hb2)
           (try clear hk)
           (try clear hi)
           (try clear ho0)
           refine hK.out _ _ ⟨(blk_cell BK334.out 0).trans rfl, (blk_cell BK334.out 1).trans rfl⟩ (fun hHeld => ?_)
           clear hK K
           refine norm_ (a' := ?_) ?_ ?_
           rotate_left
           ·show Act.put _ (some 89) _ = _
            simp only [Act.put, List.setIfInBounds_toArray, List.set_cons_zero, List.set_cons_succ, i64_w, i32_w]
            rfl
           refine pure_ (i := 6) (N := some 83) (v := ?_) (a' := ?_) #[true, true, true, true, true, true, true, false, false, false, false] rfl rfl (any_of HT_.out (by kernel_rfl)) (fun _ _ _ h => h) (Or.inl ⟨by rfl, ?_⟩) ?_ ?_
           rotate_left
           ·intro w'
            go_simp
            with_reducible rfl
           rotate_left
           ·simp only [Act.put, List.setIfInBounds_toArray, List.set_cons_zero, List.set_cons_succ, i64_w, i32_w]
            rfl
           refine pure_ (i := 7) (N := some 90) (v := ?_) (a' := ?_) #[true, true, true, true, true, true, true, true, false, false, false] rfl rfl (any_of HT_.out (by kernel_rfl)) (fun _ _ _ h => h) (Or.inl ⟨by rfl, ?_⟩) ?_ ?_
           rotate_left
           ·intro w'
            go_simp
            with_reducible rfl
           rotate_left
           ·simp only [Act.put, List.setIfInBounds_toArray, List.set_cons_zero, List.set_cons_succ, i64_w, i32_w]
            rfl
           refine pure_ (i := 8) (N := some 91) (v := ?_) (a' := ?_) #[true, true, true, true, true, true, true, true, true, false, false] rfl rfl (any_of HT_.out (by kernel_rfl)) (fun _ _ _ h => h) (Or.inl ⟨by rfl, ?_⟩) ?_ ?_
           rotate_left
           ·intro w'
            go_simp
            with_reducible rfl
           rotate_left
           ·simp only [Act.put, List.setIfInBounds_toArray, List.set_cons_zero, List.set_cons_succ, i64_w, i32_w]
            rfl
           refine pure_ (i := 9) (N := some 16) (v := ?_) (a' := ?_) #[true, true, true, true, true, true, true, true, true, true, false] rfl rfl (any_of HT_.out (by kernel_rfl)) (fun _ _ _ h => h) (Or.inl ⟨by rfl, ?_⟩) ?_ ?_
           rotate_left
           ·intro w'
            go_simp
            with_reducible rfl
           rotate_left
           ·simp only [Act.put, List.setIfInBounds_toArray, List.set_cons_zero, List.set_cons_succ, i64_w, i32_w]
            rfl
           refine pure_ (i := 10) (N := some 17) (v := ?_) (a' := ?_) #[true, true, true, true, true, true, true, true, true, true, true] rfl rfl (any_of HT_.out (by kernel_rfl)) (fun _ _ _ h => h) (Or.inl ⟨by rfl, ?_⟩) ?_ ?_
           rotate_left
           ·intro w'
            go_simp
            with_reducible rfl
           rotate_left
           ·simp only [Act.put, List.setIfInBounds_toArray, List.set_cons_zero, List.set_cons_succ, i64_w, i32_w]
            rfl
           refine done_ (done_of HT_.out (by kernel_rfl)) ?_
           go_upto_region 25 with (fail)
           go_cut [100] (fun v100 wc => ∃ (kq : Nat) (x100_55 : Bool), v100 = .bool x100_55 ∧ Aside0 (laws_FnExactQuiddityChange.j2 kq t363 t362 x100_55 = some r) ∧ Aside0 (kq ≤ kj35) ∧ Aside0 (Kd.R (Kd.int .i64) 3 wc w.heap.size (fun _ => True) (.slice Ao57 t350.length co57) t363) ∧ Aside0 (wc.heap[gb334]? = some (.cells #[.int .i64 a2_0, .int .i64 a2_1] 35 (0, 0))) ∧ Aside0 (Below w.heap.size w wc))
           case first =>
            have H := HC56.out
            clear HC56
            replace H := Option.bind_eq_some_iff.mp H
            obtain ⟨t374, A640, H⟩ := H
            replace H : (if t374 = true then (laws_FnExactQuiddityChange.j2 kj35 t363 t362 (t373 != t344)) else (laws_FnExactQuiddityChange.j2 kj35 t363 t362 true)) = some r := H
            have A64 := Aside0.mk A640
            clear A640
            by_cases c65 : t374 = true
            ·subst c65
             have H1 : (laws_FnExactQuiddityChange.j2 kj35 t363 t362 (t373 != t344)) = some r := by rw [if_pos rfl] at H; exact H
             clear H
             have H := H1
             clear H1
             have H' := Aside0.mk H
             clear H
             obtain ⟨Ao66, co66, eo66⟩ := Kd.R_slice HO372.out
             subst eo66
             obtain ⟨Ao67, co67, eo67⟩ := Kd.R_slice HO_8.out
             subst eo67
             go_wp2_with (first | ((with_reducible refine gate_callee (f := 30) rfl ?_); refine goesL_ (some 94) rfl rfl Try.func30 (by kernel_rfl) rfl #[.slice Ao66 t370.length co66, .slice Ao67 t341.length co67] rfl amp_ ?_; (with_reducible refine (laws_eqIntS.calls kj35 _ _ t370 _ _ t341 true _ ?side1 ?side2 ?side3 ?side4 A64.out).mono ?_); (case side1 => repeat (first | exact (Kd.R_reads' HO372.out).2.2 | (with_reducible refine Kd.C_alloc ?_ _) | (with_reducible refine Kd.C_drewN ?_ _) | (with_reducible refine Kd.C_drew ?_))); (case side2 => exact (Kd.R_reads' HO372.out).2.1); (case side3 => repeat (first | exact (Kd.R_reads' HO_8.out).2.2 | (with_reducible refine Kd.C_alloc ?_ _) | (with_reducible refine Kd.C_drewN ?_ _) | (with_reducible refine Kd.C_drew ?_))); (case side4 => exact (Kd.R_reads' HO_8.out).2.1); rintro e w' ⟨rfl, ⟨nd, rfl⟩⟩; refine ⟨_, rfl, ?_⟩))
             go_meet
             case rel => exact ⟨_, ((t373 != t344)), (by first | rfl | (simp; done) | (simp [*]; done)), H', ⟨by have := HJ12.out; have := HJ35.out; first | omega | exact Nat.le_refl _⟩, ⟨by (with_reducible repeat (first | apply Kd.R_alloc | apply Kd.R_drewN | apply Kd.R_drew)); exact Kd.R_mono HO_11.out (fun _ hk => trivial)⟩, ⟨bk_ BK334.out⟩, ⟨by repeat (first | (with_reducible first | exact HB.out | apply below_alloc | apply pw_below_drewN | apply below_drew1 | refine below_set ?_ GE334.out) | exact HB.out)⟩⟩
            ·replace c65 := Bool.eq_false_iff.mpr c65
             subst c65
             have H1 : (laws_FnExactQuiddityChange.j2 kj35 t363 t362 true) = some r := by rw [if_neg (show ¬ (false = true) by decide)] at H; exact H
             clear H
             have H := H1
             clear H1
             have H' := Aside0.mk H
             clear H
             obtain ⟨Ao68, co68, eo68⟩ := Kd.R_slice HO372.out
             subst eo68
             obtain ⟨Ao69, co69, eo69⟩ := Kd.R_slice HO_8.out
             subst eo69
             go_wp2_with (first | ((with_reducible refine gate_callee (f := 30) rfl ?_); refine goesL_ (some 94) rfl rfl Try.func30 (by kernel_rfl) rfl #[.slice Ao68 t370.length co68, .slice Ao69 t341.length co69] rfl amp_ ?_; (with_reducible refine (laws_eqIntS.calls kj35 _ _ t370 _ _ t341 false _ ?side1 ?side2 ?side3 ?side4 A64.out).mono ?_); (case side1 => repeat (first | exact (Kd.R_reads' HO372.out).2.2 | (with_reducible refine Kd.C_alloc ?_ _) | (with_reducible refine Kd.C_drewN ?_ _) | (with_reducible refine Kd.C_drew ?_))); (case side2 => exact (Kd.R_reads' HO372.out).2.1); (case side3 => repeat (first | exact (Kd.R_reads' HO_8.out).2.2 | (with_reducible refine Kd.C_alloc ?_ _) | (with_reducible refine Kd.C_drewN ?_ _) | (with_reducible refine Kd.C_drew ?_))); (case side4 => exact (Kd.R_reads' HO_8.out).2.1); rintro e w' ⟨rfl, ⟨nd, rfl⟩⟩; refine ⟨_, rfl, ?_⟩))
             go_meet
             case rel => exact ⟨_, (true), (by first | rfl | (simp; done) | (simp [*]; done)), H', ⟨by have := HJ12.out; have := HJ35.out; first | omega | exact Nat.le_refl _⟩, ⟨by (with_reducible repeat (first | apply Kd.R_alloc | apply Kd.R_drewN | apply Kd.R_drew)); exact Kd.R_mono HO_11.out (fun _ hk => trivial)⟩, ⟨bk_ BK334.out⟩, ⟨by repeat (first | (with_reducible first | exact HB.out | apply below_alloc | apply pw_below_drewN | apply below_drew1 | refine below_set ?_ GE334.out) | exact HB.out)⟩⟩
           case rest =>
            clear HC56
            try clear c1
            try clear c2
            try clear p2
            try clear c3
            try clear c4
            try clear c5
            try clear c5b0
            try clear c6
            try clear c17
            try clear c18
            try clear c20
            try clear c22
            try clear c25
            try clear c26
            try clear c28
            try clear c29
            try clear c30
            try clear c31
            try clear c32
            try clear c34
            try clear c41
            try clear c41b0
            try clear c43
            try clear c48
            try clear c51
            try clear c51b0
            try clear c52
            try clear c52b0
            try clear c52b1
            try clear c65
            try clear hcz21_0
            try clear hcz21_1
            try clear hfz21_0
            try clear hfz21_1
            try clear p2
            obtain ⟨kq, x100_55, rfl, HA, HJ55, HO_11, BK334, HB⟩ := hcut
            have hl11_55 := (Kd.R_reads' HO_11.out).1
            rw [hl11_55] at HO_11
            (try simp only [hl11_55])
            (try simp only [hl11_55] at BK334)
            cases kq with
            | zero => exact absurd HA.out (by simp [laws_FnExactQuiddityChange.j2])
            | succ kj55 =>
             have H := HA.out
             clear HA
             simp only [laws_FnExactQuiddityChange.j2] at H
             by_cases c70 : x100_55 = true
             ·subst c70
              have H1 : (some false) = some r := by rw [if_pos rfl] at H; exact H
              clear H
              have H := H1
              clear H1
              exact absurd (H.trans (congrArg some htrue.out)) (by decide)
             ·replace c70 := Bool.eq_false_iff.mpr c70
              subst c70
              have H1 : ((laws_heldIntS.f kj55 t363 1).bind fun t375 => (if t375 < 0 then (some false) else (if t375 = t362 then (some true) else (some false)))) = some r := by rw [if_neg (show ¬ (false = true) by decide)] at H; exact H
              clear H
              have H := H1
              clear H1
              replace H := Option.bind_eq_some_iff.mp H
              obtain ⟨t375, A710, H⟩ := H
              replace H : (if t375 < 0 then (some false) else (if t375 = t362 then (some true) else (some false))) = some r := H
              have A71 := Aside0.mk A710
              clear A710
              by_cases c72 : t375 < 0
              ·rw [if_pos c72] at H
               have c72b0 : decide (t375 < 0) = true := decide_eq_true c72
               clear c72
               exact absurd (H.trans (congrArg some htrue.out)) (by decide)
              ·rw [if_neg c72] at H
               have c72b0 : decide (t375 < 0) = false := decide_eq_false c72
               clear c72
               by_cases c73 : t375 = t362
               ·rw [if_pos c73] at H
                have c73b0 : (t375 == t362) = true := beq_iff_eq.mpr c73
                have c73b1 : (t375 != t362) = false := bne_eq_false_iff_eq.mpr c73
                clear c73
                obtain rfl := Option.some.inj H
                go_wp2_with (first | ((with_reducible refine gate_callee (f := 32) rfl ?_); refine goesL_ (some 103) rfl rfl Try.func32 (by kernel_rfl) rfl #[.slice Ao57 t363.length co57, .int .i64 1] rfl amp_ ?_; (with_reducible refine (laws_heldIntS.calls kj55 _ _ t363 1 t375 _ ?side1 ?side2 A71.out).mono ?_); (case side1 => repeat (first | exact (Kd.R_reads' HO_11.out).2.2 | (with_reducible refine Kd.C_alloc ?_ _) | (with_reducible refine Kd.C_drewN ?_ _) | (with_reducible refine Kd.C_drew ?_))); (case side2 => exact (Kd.R_reads' HO_11.out).2.1); rintro e w' ⟨rfl, ⟨nd, rfl⟩⟩; refine ⟨_, rfl, ?_⟩))
                go_ret
                exact ⟨by first | rfl | (simp [errW_none, errW_some] <;> rfl) | (simp [*, errW_none, errW_some] <;> rfl), by repeat (first | (with_reducible first | exact HB.out | apply below_alloc | apply pw_below_drewN | apply below_drew1 | refine below_set ?_ GE334.out) | exact HB.out)⟩
               ·rw [if_neg c73] at H
                have c73b0 : (t375 == t362) = false := beq_eq_false_iff_ne.mpr c73
                have c73b1 : (t375 != t362) = true := bne_iff_ne.mpr c73
                exact absurd (H.trans (congrArg some htrue.out)) (by decide)
          ·rw [if_neg c52] at H
           have c52b0 : (t364 == t362) = false := beq_eq_false_iff_ne.mpr c52
           have c52b1 : (t364 != t362) = true := bne_iff_ne.mpr c52
           exact absurd (H.trans (congrArg some htrue.out)) (by decide)
     ·replace c34 := Bool.eq_false_iff.mpr c34
      subst c34
      have H1 : (some false) = some r := by rw [if_neg (show ¬ (false = true) by decide)] at H; exact H
      clear H
      have H := H1
      clear H1
      exact absurd (H.trans (congrArg some htrue.out)) (by decide)

end Go.Proofs.Ytkipgbakoljaeaa.PFnExactQuiddityChange
