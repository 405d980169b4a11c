-- WRITTEN BY A PROGRAM OF THIS WORK (wip/tools/ppatch.py) for this claim.
import Derived.Test.YtgblginphicacaaPFnExactRankOfQuiddityx0
import Derived.Test.YtgblginphicacaaPFnExactRankOfQuiddityx1
import Derived.Test.YtgblginphicacaaPFnExactRankOfQuiddityx3
import Derived.Test.YtgblginphicacaaPFnExactRankOfQuiddityx5
namespace Go.Proofs.Ytgblginphicacaa.PFnExactRankOfQuiddity
open Go.RowKit Go.Proofs.YtgblginphicacaaW.PrintWords Go.Proofs.YtgblginphicacaaW.PrintLast Go.Proofs.YtgblginphicacaaW.PrintMore
attribute [local go_sem] max2_int min2_int max_two min_two max_three min_three max_four min_four   -- for this text's walks alone
set_option linter.unusedVariables false
set_option linter.unusedSimpArgs false

/-! ### spec_poOf: function 56 -/
mutual
def spec_poOf.j0 : Nat → List Int → Bool → Option ((List (S52)) × Bool)
 | 0, _, _ => none
 | k + 1, x0, x21 => if x21 = true then (some (([] : List (S52)), false)) else ((spec_l1Own.f x0).bind fun t238 => (spec_poOf.l0 k t238 (([] : List Int)) (t238.length : Int) 0))
def spec_poOf.l0 : Nat → List Int → List Int → Int → Int → Option ((List (S52)) × Bool)
 | 0, _, _, _, _ => none
 | k + 1, x4, x5, x26, x27 => if x27 < x26 then (if x5.length < 17592186044416 then (spec_poOf.l0 k x4 (x5 ++ [x27]) x26 (wrap64 (x27 + 1))) else (none)) else (spec_poOf.l1 k x4 x5 ([] : List (S52)))
def spec_poOf.l1 : Nat → List Int → List Int → List (S52) → Option ((List (S52)) × Bool)
 | 0, _, _, _ => none
 | k + 1, x4, x5, x7 => if (x4.length : Int) > 3 then (spec_poOf.l2 k x4 x5 x7 (-1) x4 (x4.length : Int) 0) else ((spec_poSorted.f k x7).bind fun t247 => (if 0 < (x4.length : Int) then (if (rd x4 0) = 1 then (if 1 < (x4.length : Int) then (if (rd x4 1) = 1 then (if 2 < (x4.length : Int) then (some (t247, ((rd x4 2) == 1))) else (none)) else (some (t247, false))) else (none)) else (some (t247, false))) else (none)))
def spec_poOf.l2 : Nat → List Int → List Int → List (S52) → Int → List Int → Int → Int → Option ((List (S52)) × Bool)
 | 0, _, _, _, _, _, _, _ => none
 | k + 1, x4, x5, x7, x8, x38, x39, x40 => if x40 < x39 then (if 0 ≤ x40 then (if x40 < (x38.length : Int) then (if (rd x38 x40) = 1 then (if x8 < 0 then (spec_poOf.l2 k x4 x5 x7 x40 x38 x39 (wrap64 (x40 + 1))) else (spec_poOf.l2 k x4 x5 x7 x8 x38 x39 (wrap64 (x40 + 1)))) else (spec_poOf.l2 k x4 x5 x7 x8 x38 x39 (wrap64 (x40 + 1)))) else (none)) else (none)) else (if x8 < 0 then (some (([] : List (S52)), false)) else (if (x4.length : Int) = 0 then (none) else (if 0 ≤ (Int.tmod (wrap64 ((wrap64 (x8 + (x4.length : Int))) - 1)) (x4.length : Int)) then (if (Int.tmod (wrap64 ((wrap64 (x8 + (x4.length : Int))) - 1)) (x4.length : Int)) < (x4.length : Int) then ((some (x4.set ((Int.tmod (wrap64 ((wrap64 (x8 + (x4.length : Int))) - 1)) (x4.length : Int)) : Int).toNat (wrap64 ((rd x4 (Int.tmod (wrap64 ((wrap64 (x8 + (x4.length : Int))) - 1)) (x4.length : Int))) - 1)) : List Int)).bind fun y255 => (if 0 ≤ (Int.tmod (wrap64 (x8 + 1)) (x4.length : Int)) then (if (Int.tmod (wrap64 (x8 + 1)) (x4.length : Int)) < (x4.length : Int) then ((some (y255.set ((Int.tmod (wrap64 (x8 + 1)) (x4.length : Int)) : Int).toNat (wrap64 ((rd y255 (Int.tmod (wrap64 (x8 + 1)) (x4.length : Int))) - 1)) : List Int)).bind fun y257 => (if (rd y257 (Int.tmod (wrap64 ((wrap64 (x8 + (x4.length : Int))) - 1)) (x4.length : Int))) < 1 then (spec_poOf.j4 k y257 x5 x7 x8 (Int.tmod (wrap64 ((wrap64 (x8 + (x4.length : Int))) - 1)) (x4.length : Int)) (Int.tmod (wrap64 (x8 + 1)) (x4.length : Int)) true) else (spec_poOf.j4 k y257 x5 x7 x8 (Int.tmod (wrap64 ((wrap64 (x8 + (x4.length : Int))) - 1)) (x4.length : Int)) (Int.tmod (wrap64 (x8 + 1)) (x4.length : Int)) (decide ((rd y257 (Int.tmod (wrap64 (x8 + 1)) (x4.length : Int))) < 1))))) else (none)) else (none))) else (none)) else (none))))
def spec_poOf.j4 : Nat → List Int → List Int → List (S52) → Int → Int → Int → Bool → Option ((List (S52)) × Bool)
 | 0, _, _, _, _, _, _, _ => none
 | k + 1, x4, x5, x7, x8, x11, x12, x91 => if x91 = true then (some (([] : List (S52)), false)) else (if 0 ≤ x11 then (if x11 < (x5.length : Int) then (if 0 ≤ x12 then (if x12 < (x5.length : Int) then ((spec_l1Least.f (rd x5 x11) (rd x5 x12)).bind fun t262 => ((spec_l1Most.f (rd x5 x11) (rd x5 x12)).bind fun t265 => (if x7.length < 8796093022208 then (if 0 ≤ x8 then (if x8 ≤ (x4.length : Int) then ((spec_l1Own.f (x4.take (x8 : Int).toNat)).bind fun t273 => (if 0 ≤ (wrap64 (x8 + 1)) then (if (wrap64 (x8 + 1)) ≤ (x4.length : Int) then ((some (x4.drop ((wrap64 (x8 + 1)) : Int).toNat : List Int)).bind fun y276 => (if t273.length + y276.length < 17592186044416 then (if x8 ≤ (x5.length : Int) then ((spec_l1Own.f (x5.take (x8 : Int).toNat)).bind fun t287 => (if (wrap64 (x8 + 1)) ≤ (x5.length : Int) then ((some (x5.drop ((wrap64 (x8 + 1)) : Int).toNat : List Int)).bind fun y290 => (if t287.length + y290.length < 17592186044416 then (spec_poOf.l1 k (t273 ++ y276) (t287 ++ y290) (x7 ++ [(⟨t262, t265⟩ : S52)])) else (none))) else (none))) else (none)) else (none))) else (none)) else (none))) else (none)) else (none)) else (none)))) else (none)) else (none)) else (none)) else (none))
end
def spec_poOf.f (k : Nat) (l0 : List Int) : Option ((List (S52)) × Bool) := (spec_poIs.f (l0.length : Int)).bind fun t236 => (if t236 = true then ((spec_l1All.f k l0 1 12).bind fun t237 => (spec_poOf.j0 k l0 (!t237))) else (spec_poOf.j0 k l0 true))
theorem spec_poOf.mono_l : ∀ k, (∀ y0 y1, LeO (spec_poOf.j0 k y0 y1) (spec_poOf.j0 (k + 1) y0 y1)) ∧ (∀ y0 y1 y2 y3, LeO (spec_poOf.l0 k y0 y1 y2 y3) (spec_poOf.l0 (k + 1) y0 y1 y2 y3)) ∧ (∀ y0 y1 y2, LeO (spec_poOf.l1 k y0 y1 y2) (spec_poOf.l1 (k + 1) y0 y1 y2)) ∧ (∀ y0 y1 y2 y3 y4 y5 y6, LeO (spec_poOf.l2 k y0 y1 y2 y3 y4 y5 y6) (spec_poOf.l2 (k + 1) y0 y1 y2 y3 y4 y5 y6)) ∧ (∀ y0 y1 y2 y3 y4 y5 y6, LeO (spec_poOf.j4 k y0 y1 y2 y3 y4 y5 y6) (spec_poOf.j4 (k + 1) y0 y1 y2 y3 y4 y5 y6))
 | 0 => ⟨fun _ _ r h => by simp [spec_poOf.j0] at h, fun _ _ _ _ r h => by simp [spec_poOf.l0] at h, fun _ _ _ r h => by simp [spec_poOf.l1] at h, fun _ _ _ _ _ _ _ r h => by simp [spec_poOf.l2] at h, fun _ _ _ _ _ _ _ r h => by simp [spec_poOf.j4] at h⟩
 | k + 1 => by
  obtain ⟨ih0, ih1, ih2, ih3, ih4⟩ := spec_poOf.mono_l k
  refine ⟨?_, ?_, ?_, ?_, ?_⟩
  ·intro y0 y1
   unfold spec_poOf.j0
   repeat' first
   | (with_reducible exact ih0 _ _)
   | (with_reducible exact ih1 _ _ _ _)
   | (with_reducible exact ih2 _ _ _)
   | (with_reducible exact ih3 _ _ _ _ _ _ _)
   | (with_reducible exact ih4 _ _ _ _ _ _ _)
   | (with_reducible exact spec_l1All.mono _ _ _ _)
   | (with_reducible exact spec_poSorted.mono _ _)
   | (with_reducible exact LeO.refl _)
   | (with_reducible exact LeO.none _)
   | (with_reducible refine LeO.ite ?_ ?_)
   | (with_reducible refine LeO.bind ?_ (fun _ => ?_))
   | exact ih0 _ _
   | exact ih1 _ _ _ _
   | exact ih2 _ _ _
   | exact ih3 _ _ _ _ _ _ _
   | exact ih4 _ _ _ _ _ _ _
   | exact spec_l1All.mono _ _ _ _
   | exact spec_poSorted.mono _ _
   | exact LeO.none _
   | refine LeO.ite ?_ ?_
   | refine LeO.bind ?_ (fun _ => ?_)
  ·intro y0 y1 y2 y3
   unfold spec_poOf.l0
   repeat' first
   | (with_reducible exact ih0 _ _)
   | (with_reducible exact ih1 _ _ _ _)
   | (with_reducible exact ih2 _ _ _)
   | (with_reducible exact ih3 _ _ _ _ _ _ _)
   | (with_reducible exact ih4 _ _ _ _ _ _ _)
   | (with_reducible exact spec_l1All.mono _ _ _ _)
   | (with_reducible exact spec_poSorted.mono _ _)
   | (with_reducible exact LeO.refl _)
   | (with_reducible exact LeO.none _)
   | (with_reducible refine LeO.ite ?_ ?_)
   | (with_reducible refine LeO.bind ?_ (fun _ => ?_))
   | exact ih0 _ _
   | exact ih1 _ _ _ _
   | exact ih2 _ _ _
   | exact ih3 _ _ _ _ _ _ _
   | exact ih4 _ _ _ _ _ _ _
   | exact spec_l1All.mono _ _ _ _
   | exact spec_poSorted.mono _ _
   | exact LeO.none _
   | refine LeO.ite ?_ ?_
   | refine LeO.bind ?_ (fun _ => ?_)
  ·intro y0 y1 y2
   unfold spec_poOf.l1
   repeat' first
   | (with_reducible exact ih0 _ _)
   | (with_reducible exact ih1 _ _ _ _)
   | (with_reducible exact ih2 _ _ _)
   | (with_reducible exact ih3 _ _ _ _ _ _ _)
   | (with_reducible exact ih4 _ _ _ _ _ _ _)
   | (with_reducible exact spec_l1All.mono _ _ _ _)
   | (with_reducible exact spec_poSorted.mono _ _)
   | (with_reducible exact LeO.refl _)
   | (with_reducible exact LeO.none _)
   | (with_reducible refine LeO.ite ?_ ?_)
   | (with_reducible refine LeO.bind ?_ (fun _ => ?_))
   | exact ih0 _ _
   | exact ih1 _ _ _ _
   | exact ih2 _ _ _
   | exact ih3 _ _ _ _ _ _ _
   | exact ih4 _ _ _ _ _ _ _
   | exact spec_l1All.mono _ _ _ _
   | exact spec_poSorted.mono _ _
   | exact LeO.none _
   | refine LeO.ite ?_ ?_
   | refine LeO.bind ?_ (fun _ => ?_)
  ·intro y0 y1 y2 y3 y4 y5 y6
   unfold spec_poOf.l2
   repeat' first
   | (with_reducible exact ih0 _ _)
   | (with_reducible exact ih1 _ _ _ _)
   | (with_reducible exact ih2 _ _ _)
   | (with_reducible exact ih3 _ _ _ _ _ _ _)
   | (with_reducible exact ih4 _ _ _ _ _ _ _)
   | (with_reducible exact spec_l1All.mono _ _ _ _)
   | (with_reducible exact spec_poSorted.mono _ _)
   | (with_reducible exact LeO.refl _)
   | (with_reducible exact LeO.none _)
   | (with_reducible refine LeO.ite ?_ ?_)
   | (with_reducible refine LeO.bind ?_ (fun _ => ?_))
   | exact ih0 _ _
   | exact ih1 _ _ _ _
   | exact ih2 _ _ _
   | exact ih3 _ _ _ _ _ _ _
   | exact ih4 _ _ _ _ _ _ _
   | exact spec_l1All.mono _ _ _ _
   | exact spec_poSorted.mono _ _
   | exact LeO.none _
   | refine LeO.ite ?_ ?_
   | refine LeO.bind ?_ (fun _ => ?_)
  ·intro y0 y1 y2 y3 y4 y5 y6
   unfold spec_poOf.j4
   repeat' first
   | (with_reducible exact ih0 _ _)
   | (with_reducible exact ih1 _ _ _ _)
   | (with_reducible exact ih2 _ _ _)
   | (with_reducible exact ih3 _ _ _ _ _ _ _)
   | (with_reducible exact ih4 _ _ _ _ _ _ _)
   | (with_reducible exact spec_l1All.mono _ _ _ _)
   | (with_reducible exact spec_poSorted.mono _ _)
   | (with_reducible exact LeO.refl _)
   | (with_reducible exact LeO.none _)
   | (with_reducible refine LeO.ite ?_ ?_)
   | (with_reducible refine LeO.bind ?_ (fun _ => ?_))
   | exact ih0 _ _
   | exact ih1 _ _ _ _
   | exact ih2 _ _ _
   | exact ih3 _ _ _ _ _ _ _
   | exact ih4 _ _ _ _ _ _ _
   | exact spec_l1All.mono _ _ _ _
   | exact spec_poSorted.mono _ _
   | exact LeO.none _
   | refine LeO.ite ?_ ?_
   | refine LeO.bind ?_ (fun _ => ?_)
theorem spec_poOf.mono : ∀ a0 k, LeO (spec_poOf.f k a0) (spec_poOf.f (k + 1) a0) := by
 intro a0 k
 obtain ⟨ih0, ih1, ih2, ih3, ih4⟩ := spec_poOf.mono_l k
 unfold spec_poOf.f
 repeat' first
   | (with_reducible exact ih0 _ _)
   | (with_reducible exact ih1 _ _ _ _)
   | (with_reducible exact ih2 _ _ _)
   | (with_reducible exact ih3 _ _ _ _ _ _ _)
   | (with_reducible exact ih4 _ _ _ _ _ _ _)
   | (with_reducible exact spec_l1All.mono _ _ _ _)
   | (with_reducible exact spec_poSorted.mono _ _)
   | (with_reducible exact LeO.refl _)
   | (with_reducible exact LeO.none _)
   | (with_reducible refine LeO.ite ?_ ?_)
   | (with_reducible refine LeO.bind ?_ (fun _ => ?_))
   | exact ih0 _ _
   | exact ih1 _ _ _ _
   | exact ih2 _ _ _
   | exact ih3 _ _ _ _ _ _ _
   | exact ih4 _ _ _ _ _ _ _
   | exact spec_l1All.mono _ _ _ _
   | exact spec_poSorted.mono _ _
   | exact LeO.none _
   | refine LeO.ite ?_ ?_
   | refine LeO.bind ?_ (fun _ => ?_)
def spec_poOf.T20 : Bool × List (List Nat × List Nat) := (true, [([], []), ([], []), ([1], [1]), ([0, 2], [0, 2]), ([3], [3]), ([], []), ([5], [5]), ([4, 6], [4, 6]), ([], []), ([8], [8]), ([], []), ([10], [10]), ([9, 11], [9, 11]), ([7, 0, 1, 2, 3, 4, 5, 6, 7], [7]), ([12, 13, 0, 1, 2, 3, 4, 5, 6, 7, 8, 9, 10, 11, 12, 13], [12])])
def spec_poOf.B20 : List Nat := [0, 0, 2, 7, 15, 0, 32, 127, 0, 256, 0, 1024, 3840, 255, 16383]
theorem spec_poOf.tab20 : rtab .any (opsOf Try.f56 20) = spec_poOf.T20 := by kernel_rfl
theorem spec_poOf.bits20 : waitsOk spec_poOf.T20.2 spec_poOf.B20 = true := by kernel_rfl
def spec_poOf.T25 : Bool × List (List Nat × List Nat) := (true, [([], []), ([], []), ([], []), ([1, 2], [1, 2]), ([3], [3]), ([], []), ([], []), ([5, 6], [5, 6]), ([7], [7]), ([4, 8], [4, 8]), ([], []), ([], []), ([10, 11], [10, 11]), ([12], [12]), ([], []), ([], []), ([14, 15], [14, 15]), ([16], [16]), ([13, 17, 9], [13, 17]), ([9, 18], [9, 18]), ([19], [19]), ([0, 20, 18], [0, 20]), ([21, 21, 0, 1, 2, 3, 4, 5, 6, 7, 8, 9, 10, 11, 12, 13, 14, 15, 16, 17, 18, 19, 20, 21], [0, 21])])
def spec_poOf.B25 : List Nat := [0, 0, 0, 6, 14, 0, 0, 96, 224, 510, 0, 0, 3072, 7168, 0, 0, 49152, 114688, 262142, 524286, 1048574, 2097151, 4194303]
theorem spec_poOf.tab25 : rtab .any (opsOf Try.f56 25) = spec_poOf.T25 := by kernel_rfl
theorem spec_poOf.bits25 : waitsOk spec_poOf.T25.2 spec_poOf.B25 = true := by kernel_rfl
def spec_poOf.T26 : Bool × List (List Nat × List Nat) := (true, [([], []), ([], []), ([0, 1], [0, 1]), ([2], [2]), ([], []), ([], []), ([5], [5]), ([4, 6], [4, 6]), ([3, 7, 3], [3, 7]), ([8, 8, 0, 1, 2, 3, 4, 5, 6, 7, 8], [0, 4, 8])])
def spec_poOf.B26 : List Nat := [0, 0, 3, 7, 0, 0, 32, 112, 255, 511]
theorem spec_poOf.tab26 : rtab .any (opsOf Try.f56 26) = spec_poOf.T26 := by kernel_rfl
theorem spec_poOf.bits26 : waitsOk spec_poOf.T26.2 spec_poOf.B26 = true := by kernel_rfl
def spec_poOf.T27 : Bool × List (List Nat × List Nat) := (true, [([], []), ([], []), ([0, 1], [0, 1]), ([2], [2]), ([], []), ([], []), ([5], [5]), ([4, 6], [4, 6]), ([3, 7, 3], [3, 7]), ([8, 8, 0, 1, 2, 3, 4, 5, 6, 7, 8], [0, 4, 8])])
def spec_poOf.B27 : List Nat := [0, 0, 3, 7, 0, 0, 32, 112, 255, 511]
theorem spec_poOf.tab27 : rtab .any (opsOf Try.f56 27) = spec_poOf.T27 := by kernel_rfl
theorem spec_poOf.bits27 : waitsOk spec_poOf.T27.2 spec_poOf.B27 = true := by kernel_rfl
def spec_poOf.T29 : Bool × List (List Nat × List Nat) := (true, [([], []), ([], []), ([1], [1]), ([2], [2]), ([3], [3]), ([4], [4]), ([5], [5]), ([6, 5], [5, 6]), ([7, 5], [5, 7]), ([8, 5], [5, 8]), ([5, 9], [5, 9]), ([10, 5], [10]), ([11], [11]), ([12, 11], [11, 12]), ([13, 11], [11, 13]), ([14, 11], [11, 14]), ([11, 15], [11, 15]), ([0, 11, 0], [0]), ([16, 17, 0, 1, 2, 3, 4, 5, 6, 7, 8, 9, 10, 11, 12, 13, 14, 15, 16, 17], [16])])
def spec_poOf.B29 : List Nat := [0, 0, 2, 6, 14, 30, 62, 126, 254, 510, 1022, 2046, 4094, 8190, 16382, 32766, 65534, 4095, 262143]
theorem spec_poOf.tab29 : rtab .any (opsOf Try.f56 29) = spec_poOf.T29 := by kernel_rfl
theorem spec_poOf.bits29 : waitsOk spec_poOf.T29.2 spec_poOf.B29 = true := by kernel_rfl
set_option maxHeartbeats 8000000 in
set_option maxRecDepth 100000 in
theorem spec_poOf.calls (k : Nat) (A0 : Option Addr) (c0 : Nat) (l0 : List Int) (r1 : List (S52)) (r2 : Bool) (w : World) (hr0 : Kd.C (Kd.int .i64) w A0 l0.length l0) (hc0 : l0.length ≤ c0) (h : spec_poOf.f k l0 = some (r1, r2)) :
  Calls Try.prog 56 #[.slice A0 l0.length c0] w fun e w' => ∃ v0_ : Value, e = .returned (.tuple #[v0_, .bool r2]) ∧ Kd.R k52 52 w' w.heap.size (fun _ => True) v0_ r1 ∧ Below w.heap.size w w' := by
 have hu52 := Try.underlying52
 have HR0 := Aside0.mk hr0
 have HC0 := Aside0.mk hc0
 clear hr0 hc0
 have HB := Aside0.mk (Below.refl w.heap.size w)
 have H : ((spec_poIs.f (l0.length : Int)).bind fun t236 => (if t236 = true then ((spec_l1All.f k l0 1 12).bind fun t237 => (spec_poOf.j0 k l0 (!t237))) else (spec_poOf.j0 k l0 true))) = some (r1, r2) := h
 clear h
 have HC2 := Aside0.mk H
 clear H
 go_enter Try.func56, Try.ntmps56
 go_upto_region 1 with (fail)
 go_cut [21] (fun v21 wc => ∃ (kq : Nat) (x21_1 : Bool), v21 = .bool x21_1 ∧ Aside0 (spec_poOf.j0 kq l0 x21_1 = some (r1, r2)) ∧ Aside0 (kq ≤ k) ∧ Aside0 (Below w.heap.size w wc))
 case first =>
  have H := HC2.out
  clear HC2
  replace H := Option.bind_eq_some_iff.mp H
  obtain ⟨t236, A30, H⟩ := H
  replace H : (if t236 = true then ((spec_l1All.f k l0 1 12).bind fun t237 => (spec_poOf.j0 k l0 (!t237))) else (spec_poOf.j0 k l0 true)) = some (r1, r2) := H
  have A3 := Aside0.mk A30
  clear A30
  by_cases c4 : t236 = true
  ·subst c4
   have H1 : ((spec_l1All.f k l0 1 12).bind fun t237 => (spec_poOf.j0 k l0 (!t237))) = some (r1, r2) := by rw [if_pos rfl] at H; exact H
   clear H
   have H := H1
   clear H1
   replace H := Option.bind_eq_some_iff.mp H
   obtain ⟨t237, A50, H⟩ := H
   replace H : (spec_poOf.j0 k l0 (!t237)) = some (r1, r2) := H
   have A5 := Aside0.mk A50
   clear A50
   have H' := Aside0.mk H
   clear H
   go_wp2_with (first | ((with_reducible refine gate_callee (f := 79) rfl ?_); refine goesL_ (some 15) rfl rfl Try.func79 (by kernel_rfl) rfl #[.int .i64 (l0.length : Int)] rfl amp_ ?_; (with_reducible refine (spec_poIs.calls (l0.length : Int) true _ A3.out).mono ?_); rintro e w' ⟨rfl, ⟨nd, rfl⟩⟩; refine ⟨_, rfl, ?_⟩) | (go_at_call 80; (with_reducible refine (spec_l1All.calls k _ _ l0 1 12 t237 _ ?side1 ?side2 A5.out).mono ?_); (case side1 => repeat (first | exact (Kd.C_below HR0.out blw_) | (with_reducible refine Kd.C_alloc ?_ _) | (with_reducible refine Kd.C_drewN ?_ _) | (with_reducible refine Kd.C_drew ?_))); (case side2 => exact HC0.out); rintro e w' ⟨rfl, ⟨nd, rfl⟩⟩))
   go_meet
   case rel => exact ⟨_, (!t237), rsd_, H', ⟨by first | omega | exact Nat.le_refl _⟩, ⟨blw_⟩⟩
  ·replace c4 := Bool.eq_false_iff.mpr c4
   subst c4
   have H1 : (spec_poOf.j0 k l0 true) = some (r1, r2) := by rw [if_neg (show ¬ (false = true) by decide)] at H; exact H
   clear H
   have H := H1
   clear H1
   have H' := Aside0.mk H
   clear H
   go_wp2_with (first | ((with_reducible refine gate_callee (f := 79) rfl ?_); refine goesL_ (some 15) rfl rfl Try.func79 (by kernel_rfl) rfl #[.int .i64 (l0.length : Int)] rfl amp_ ?_; (with_reducible refine (spec_poIs.calls (l0.length : Int) false _ A3.out).mono ?_); rintro e w' ⟨rfl, ⟨nd, rfl⟩⟩; refine ⟨_, rfl, ?_⟩))
   go_meet
   case rel => exact ⟨_, (true), rsd_, H', ⟨by first | omega | exact Nat.le_refl _⟩, ⟨blw_⟩⟩
 case rest =>
  clear HC2
  try clear p2
  try clear c4
  try clear c5
  obtain ⟨kq, x21_1, rfl, HA, HJ1, HB⟩ := hcut
  cases kq with
  | zero => exact absurd HA.out (by simp [spec_poOf.j0])
  | succ kj1 =>
   have H := HA.out
   clear HA
   simp only [spec_poOf.j0] at H
   by_cases c6 : x21_1 = true
   ·subst c6
    have H1 : (some (([] : List (S52)), false)) = some (r1, r2) := by rw [if_pos rfl] at H; exact H
    clear H
    have H := H1
    clear H1
    simp only [Option.some.injEq, Prod.mk.injEq] at H
    obtain ⟨rfl, rfl⟩ := H
    go_wp2
    go_ret2
    exact ⟨_, by first | rfl | (simp [errW_none, errW_some] <;> rfl) | (simp [*, errW_none, errW_some] <;> rfl), by first | exact Kd.R_nil _ _ _ _ _ | exact Kd.N_nil _ _ _ _ _ | exact Kd.V_nil _ _ _ _ _ | exact Kd.Q_nil _ _ _ _ _ | exact Kd.S_nil _ _ _ _ _, blw_⟩
   ·replace c6 := Bool.eq_false_iff.mpr c6
    subst c6
    have H1 : ((spec_l1Own.f l0).bind fun t238 => (spec_poOf.l0 kj1 t238 (([] : List Int)) (t238.length : Int) 0)) = some (r1, r2) := by rw [if_neg (show ¬ (false = true) by decide)] at H; exact H
    clear H
    have H := H1
    clear H1
    replace H := Option.bind_eq_some_iff.mp H
    obtain ⟨t238, A70, H⟩ := H
    replace H : (spec_poOf.l0 kj1 t238 (([] : List Int)) (t238.length : Int) 0) = some (r1, r2) := H
    have A7 := Aside0.mk A70
    clear A70
    obtain ⟨y241, hy241⟩ : ∃ y_ : List Int, y_ = (([] : List Int)) := ⟨_, rfl⟩
    replace H : (spec_poOf.l0 kj1 t238 y241 (t238.length : Int) 0) = some (r1, r2) := by first | (rw [hy241]; with_reducible exact H) | (have H2_ := (Option.bind_some _ _).symm.trans H; rw [hy241]; with_reducible exact H2_) | (have H2_ := (Option.bind_some _ _).symm.trans H; with_reducible exact H2_) | with_reducible exact H | (rw [hy241]; exact H) | exact H
    have Ny241 := Aside0.mk hy241
    clear hy241
    have H' := Aside0.mk H
    clear H
    go_wp2_with (first | ((with_reducible refine gate_callee (f := 81) rfl ?_); refine goesL_ (some 23) rfl rfl Try.func81 (by kernel_rfl) rfl #[.slice A0 l0.length c0] rfl amp_ ?_; (with_reducible refine (spec_l1Own.calls _ _ l0 t238 _ ?side1 ?side2 A7.out).mono ?_); (case side1 => repeat (first | exact (Kd.C_below HR0.out HB.out) | (with_reducible refine Kd.C_alloc ?_ _) | (with_reducible refine Kd.C_drewN ?_ _) | (with_reducible refine Kd.C_drew ?_))); (case side2 => exact HC0.out); rintro e w8 ⟨v239, rfl, ho0, hb⟩; refine ⟨_, rfl, ?_⟩; have n0_ := Aside0.mk (Kd.R_lower ho0 (below_size blw_)); have n1_ := Aside0.mk (below_step blw_ hb); clear HB; have HO240 := n0_; have HB := n1_; clear n0_ n1_; (try clear hb); (try clear hb2); (try clear hk); (try clear hi); (try clear ho0)) | ((with_reducible refine gate_dst (N := 24) rfl ?_); refine Kd.R_lit (Kd.int .i64) _ 3 ?hg (N := 24) ?hd (xs := ([] : List Int)) (inner := []) (ok := fun _ => True) (okp := fun _ => True) ?hr ?hp (fun _ hk => hk) trivial (Below.refl _ _) (Nat.le_refl _) (by simp) ?_; (case hd => rfl); (case hg => rfl); (case hr => first | (go_simp; done) | (go_simp; rfl)); (case hp => exact (Reps.none _ _)); intro v242 w9 ho10 hb hg_ hnew_; clear hg_ hnew_; (first | rw [← Ny241.out] at ho10 | (simp only [Int.reduceToNat] at ho10; rw [← Ny241.out] at ho10)); have n0_ := Aside0.mk (Kd.R_elder' (ra_ HO240.out) (Kd.R_base ho10) hb); have n1_ := Aside0.mk (Kd.R_lower (Kd.R_new' ho10 (Kd.R_lt (ra_ HO240.out))) (below_size blw_)); have n2_ := Aside0.mk (below_step blw_ hb); clear HO240; clear HB; have HO240 := n0_; have HO243 := n1_; have HB := n2_; clear n0_ n1_ n2_; clear hb ho10; obtain ⟨Ao11, co11, eo11⟩ := Kd.R_slice HO240.out; subst eo11))
    go_loopg [5, 27] kj1 (fun kq v5 v27 w' => ∃ (x5_2 : List Int) (x27_2 : Int), v27 = .int .i64 x27_2 ∧ Aside0 (spec_poOf.l0 kq t238 x5_2 (t238.length : Int) x27_2 = some (r1, r2)) ∧ Aside0 (kq ≤ kj1) ∧ Aside0 (Kd.R (Kd.int .i64) 3 w' w.heap.size (fun k_ => some k_ ≠ (v5 : Value).ownBlock) (.slice Ao11 t238.length co11) t238) ∧ Aside0 (Kd.R (Kd.int .i64) 3 w' w.heap.size (fun k_ => some k_ ≠ ((.slice Ao11 t238.length co11) : Value).ownBlock) v5 x5_2) ∧ Aside0 (Below w.heap.size w w'))
    case atStart => exact ⟨(y241), (0), rsd_, H', ⟨Nat.le_refl _⟩, ⟨by (with_reducible repeat (first | apply Kd.R_alloc | apply Kd.R_drewN | apply Kd.R_drew)); exact Kd.R_mono HO240.out (fun _ hk => hk.2)⟩, ⟨by (with_reducible repeat (first | apply Kd.R_alloc | apply Kd.R_drewN | apply Kd.R_drew)); exact Kd.R_mono HO243.out (fun _ hk => hk.2)⟩, ⟨blw_⟩⟩
    case round =>
     clear H'
     try clear p2
     try clear c4
     try clear c5
     try clear c6
     try clear c7
     try clear c8
     try clear p2
     try clear HO_4
     try clear HO_5
     obtain ⟨x5_2, x27_2, rfl, HA, HK2, HO_4, HO_5, HB⟩ := hrel
     cases gk with
     | zero => exact absurd HA.out (by simp [spec_poOf.l0])
     | succ k2 =>
      have H := HA.out
      clear HA
      simp only [spec_poOf.l0] at H
      by_cases c12 : x27_2 < (t238.length : Int)
      ·rw [if_pos c12] at H
       have c12b0 : decide (x27_2 < (t238.length : Int)) = true := decide_eq_true c12
       clear c12
       by_cases c13 : x5_2.length < 17592186044416
       case neg=>rw [if_neg c13] at H;exact absurd H (by simp)
       rw [if_pos c13] at H
       have LMc13 := Aside0.mk c13
       clear c13
       obtain ⟨y244, hy244⟩ : ∃ y_ : List Int, y_ = (x5_2 ++ [x27_2]) := ⟨_, rfl⟩
       replace H : (spec_poOf.l0 k2 t238 y244 (t238.length : Int) (wrap64 (x27_2 + 1))) = some (r1, r2) := by first | (rw [hy244]; with_reducible exact H) | (have H2_ := (Option.bind_some _ _).symm.trans H; rw [hy244]; with_reducible exact H2_) | (have H2_ := (Option.bind_some _ _).symm.trans H; with_reducible exact H2_) | with_reducible exact H | (rw [hy244]; exact H) | exact H
       have Ny244 := Aside0.mk hy244
       clear hy244
       have H' := Aside0.mk H
       clear H
       go_wp2_with (first | ((with_reducible refine gate_builtin (b := .append) (xs := #[.tmp 30, .tmp 32]) rfl ?_); at_builtin; refine Kd.R_append (Kd.int .i64) (w0 := w) w.heap.size rfl (.tmp 30) (.tmp 32) 33 3 (.int .i64 0) 8 rfl Try.underlying33 info3 rfl (by decide) (by omega) u5 x5_2 x27_2 [.int .i64 x27_2] (fun k_ => some k_ ≠ (.slice Ao11 t238.length co11 : Value).ownBlock) (fun _ => False) rfl rfl ?aP (fun _ hk => hk.elim) ?aF ?aO ?aB ?aS ?aL ?_; (case aP => exact rfl); (case aB => exact blw_); (case aF => exact (fun k_ hk => Kd.fresh' (Kd.R_lt (ra_ HO_4.out)) k_ hk)); (case aO => exact (ra_ HO_5.out)); (case aS => exact (below_size blw_)); (case aL => have := LMc13.out; omega); intro v245 w14 ho hb hg hat; rw [← Ny244.out] at ho; have n0_ := Aside0.mk (Kd.R_after (ok := (fun _ => True)) (by (with_reducible repeat (first | apply Kd.R_alloc | apply Kd.R_drewN | apply Kd.R_drew)); exact Kd.R_mono HO_4.out (fun _ hk => ⟨trivial, hk⟩)) hg hat); have n1_ := Aside0.mk (hb); have n2_ := Aside0.mk (ho); clear HO_4; clear HB; clear HO_5; have HO_4 := n0_; have HB := n1_; have HO246 := n2_; clear n0_ n1_ n2_; clear ho hb hg hat))
       go_roundg k2
       case measure => have := HJ1.out; have := HK2.out; omega
       case rel => exact ⟨(y244), (wrap64 (x27_2 + 1)), rsd_, H', ⟨by have := HJ1.out; have := HK2.out; omega⟩, ⟨by (with_reducible repeat (first | apply Kd.R_alloc | apply Kd.R_drewN | apply Kd.R_drew)); exact Kd.R_mono HO_4.out (fun _ hk => hk.2)⟩, ⟨ra_ HO246.out⟩, ⟨blw_⟩⟩
      ·rw [if_neg c12] at H
       have c12b0 : decide (x27_2 < (t238.length : Int)) = false := decide_eq_false c12
       clear c12
       have H' := Aside0.mk H
       clear H
       go_wp2
       go_loopg [4, 5, 7] k2 (fun kq v4 v5 v7 w' => ∃ (x4_3 : List Int) (x5_3 : List Int) (x7_3 : List (S52)), Aside0 (spec_poOf.l1 kq x4_3 x5_3 x7_3 = some (r1, r2)) ∧ Aside0 (kq ≤ k2) ∧ Aside0 (Kd.R (Kd.int .i64) 3 w' w.heap.size (fun k_ => some k_ ≠ (v5 : Value).ownBlock) v4 x4_3) ∧ Aside0 (Kd.R (Kd.int .i64) 3 w' w.heap.size (fun k_ => some k_ ≠ (v4 : Value).ownBlock) v5 x5_3) ∧ Aside0 (Kd.R k52 52 w' w.heap.size (fun _ => True) v7 x7_3) ∧ Aside0 (Below w.heap.size w w'))
       case atStart => exact ⟨(t238), (x5_2), (([] : List (S52))), H', ⟨Nat.le_refl _⟩, ⟨ra_ HO_4.out⟩, ⟨ra_ HO_5.out⟩, ⟨by first | exact Kd.R_nil _ _ _ _ _ | exact Kd.N_nil _ _ _ _ _ | exact Kd.V_nil _ _ _ _ _ | exact Kd.Q_nil _ _ _ _ _ | exact Kd.S_nil _ _ _ _ _⟩, ⟨blw_⟩⟩
       case round =>
        clear H'
        try clear c1
        try clear p2
        try clear c4
        try clear c5
        try clear c6
        try clear p6
        try clear c7
        try clear c8
        try clear c12
        try clear c12b0
        try clear c13
        try clear p2
        try clear HO_4
        try clear HO_5
        try clear HO_7
        obtain ⟨x4_3, x5_3, x7_3, HA, HK3, HO_4, HO_5, HO_7, HB⟩ := hrel
        cases gk with
        | zero => exact absurd HA.out (by simp [spec_poOf.l1])
        | succ k3 =>
         have H := HA.out
         clear HA
         simp only [spec_poOf.l1] at H
         by_cases c15 : (x4_3.length : Int) > 3
         ·rw [if_pos c15] at H
          have c15b0 : decide (3 < (x4_3.length : Int)) = true := decide_eq_true c15
          have c15b1 : decide (3 < x4_3.length) = true := decide_eq_true (by omega)
          clear c15
          have H' := Aside0.mk H
          clear H
          obtain ⟨Ao16, co16, eo16⟩ := Kd.R_slice HO_4.out
          subst eo16
          go_wp2
          go_loopg [8, 40] k3 (fun kq v8 v40 w' => ∃ (x8_4 : Int) (x40_4 : Int), v8 = .int .i64 x8_4 ∧ v40 = .int .i64 x40_4 ∧ Aside0 (spec_poOf.l2 kq x4_3 x5_3 x7_3 x8_4 x4_3 (x4_3.length : Int) x40_4 = some (r1, r2)) ∧ Aside0 (kq ≤ k3) ∧ Aside0 (Kd.R (Kd.int .i64) 3 w' w.heap.size (fun k_ => some k_ ≠ (u5 : Value).ownBlock) (.slice Ao16 x4_3.length co16) x4_3) ∧ Aside0 (Kd.R (Kd.int .i64) 3 w' w.heap.size (fun k_ => some k_ ≠ ((.slice Ao16 x4_3.length co16) : Value).ownBlock ∧ some k_ ≠ ((.slice Ao16 x4_3.length co16) : Value).ownBlock) u5 x5_3) ∧ Aside0 (Kd.R k52 52 w' w.heap.size (fun _ => True) u7 x7_3) ∧ Aside0 (Kd.R (Kd.int .i64) 3 w' w.heap.size (fun k_ => some k_ ≠ (u5 : Value).ownBlock) (.slice Ao16 x4_3.length co16) x4_3) ∧ Aside0 (Below w.heap.size w w'))
          case atStart => exact ⟨((-1)), (0), rsd_, rsd_, H', ⟨Nat.le_refl _⟩, ⟨ra_ HO_4.out⟩, ⟨by (with_reducible repeat (first | apply Kd.R_alloc | apply Kd.R_drewN | apply Kd.R_drew)); exact Kd.R_mono HO_5.out (fun _ hk => ⟨hk, hk⟩)⟩, ⟨ra_ HO_7.out⟩, ⟨ra_ HO_4.out⟩, ⟨blw_⟩⟩
          case round =>
           clear H'
           try clear c1
           try clear p2
           try clear c4
           try clear c5
           try clear c6
           try clear p6
           try clear c7
           try clear c8
           try clear c12
           try clear c12b0
           try clear c13
           try clear c15
           try clear c15b0
           try clear c15b1
           try clear p2
           try clear p6
           try clear HO_4
           try clear HO_5
           try clear HO_7
           try clear HO_38
           obtain ⟨x8_4, x40_4, rfl, rfl, HA, HK4, HO_4, HO_5, HO_7, HO_38, HB⟩ := hrel
           cases gk with
           | zero => exact absurd HA.out (by simp [spec_poOf.l2])
           | succ k4 =>
            have H := HA.out
            clear HA
            simp only [spec_poOf.l2] at H
            by_cases c17 : x40_4 < (x4_3.length : Int)
            ·rw [if_pos c17] at H
             have c17b0 : decide (x40_4 < (x4_3.length : Int)) = true := decide_eq_true c17
             clear c17
             by_cases c18 : 0 ≤ x40_4
             case neg=>rw [if_neg c18] at H;exact absurd H (by simp)
             rw [if_pos c18] at H
             have c18b0 : decide (0 ≤ x40_4) = true := decide_eq_true c18
             clear c18
             by_cases c19 : x40_4 < (x4_3.length : Int)
             case neg=>rw [if_neg c19] at H;exact absurd H (by simp)
             rw [if_pos c19] at H
             have c19b0 : decide (x40_4 < (x4_3.length : Int)) = true := decide_eq_true c19
             clear c19
             by_cases c20 : (rd x4_3 x40_4) = 1
             ·rw [if_pos c20] at H
              have c20b0 : ((rd x4_3 x40_4) == 1) = true := beq_iff_eq.mpr c20
              have c20b1 : ((rd x4_3 x40_4) != 1) = false := bne_eq_false_iff_eq.mpr c20
              clear c20
              by_cases c21 : x8_4 < 0
              ·rw [if_pos c21] at H
               have c21b0 : decide (x8_4 < 0) = true := decide_eq_true c21
               clear c21
               have H' := Aside0.mk H
               clear H
               have p253 : 0 ≤ (x40_4 : Int) := odt_
               have q253 : x40_4 < (x4_3.length : Int) := odt_
               obtain ⟨ad253, e253, hx253_0⟩ := Kd.at_int (Kd.R_reads' HO_38.out).2.2 x40_4 p253 q253
               cases e253
               replace p253 := eq_true p253
               replace q253 := eq_true q253
               go_wp2
               go_roundg k4
               case measure => have := HJ1.out; have := HK2.out; have := HK3.out; have := HK4.out; omega
               case rel => exact ⟨(x40_4), (wrap64 (x40_4 + 1)), rsd_, rsd_, H', ⟨by have := HJ1.out; have := HK2.out; have := HK3.out; have := HK4.out; omega⟩, ⟨ra_ HO_4.out⟩, ⟨ra_ HO_5.out⟩, ⟨ra_ HO_7.out⟩, ⟨ra_ HO_38.out⟩, ⟨blw_⟩⟩
              ·rw [if_neg c21] at H
               have c21b0 : decide (x8_4 < 0) = false := decide_eq_false c21
               clear c21
               have H' := Aside0.mk H
               clear H
               have p253 : 0 ≤ (x40_4 : Int) := odt_
               have q253 : x40_4 < (x4_3.length : Int) := odt_
               obtain ⟨ad253, e253, hx253_0⟩ := Kd.at_int (Kd.R_reads' HO_38.out).2.2 x40_4 p253 q253
               cases e253
               replace p253 := eq_true p253
               replace q253 := eq_true q253
               go_wp2
               go_roundg k4
               case measure => have := HJ1.out; have := HK2.out; have := HK3.out; have := HK4.out; omega
               case rel => exact ⟨(x8_4), (wrap64 (x40_4 + 1)), rsd_, rsd_, H', ⟨by have := HJ1.out; have := HK2.out; have := HK3.out; have := HK4.out; omega⟩, ⟨ra_ HO_4.out⟩, ⟨ra_ HO_5.out⟩, ⟨ra_ HO_7.out⟩, ⟨ra_ HO_38.out⟩, ⟨blw_⟩⟩
             ·rw [if_neg c20] at H
              have c20b0 : ((rd x4_3 x40_4) == 1) = false := beq_eq_false_iff_ne.mpr c20
              have c20b1 : ((rd x4_3 x40_4) != 1) = true := bne_iff_ne.mpr c20
              have H' := Aside0.mk H
              clear H
              have p253 : 0 ≤ (x40_4 : Int) := odt_
              have q253 : x40_4 < (x4_3.length : Int) := odt_
              obtain ⟨ad253, e253, hx253_0⟩ := Kd.at_int (Kd.R_reads' HO_38.out).2.2 x40_4 p253 q253
              cases e253
              replace p253 := eq_true p253
              replace q253 := eq_true q253
              go_wp2
              go_roundg k4
              case measure => have := HJ1.out; have := HK2.out; have := HK3.out; have := HK4.out; omega
              case rel => exact ⟨(x8_4), (wrap64 (x40_4 + 1)), rsd_, rsd_, H', ⟨by have := HJ1.out; have := HK2.out; have := HK3.out; have := HK4.out; omega⟩, ⟨ra_ HO_4.out⟩, ⟨ra_ HO_5.out⟩, ⟨ra_ HO_7.out⟩, ⟨ra_ HO_38.out⟩, ⟨blw_⟩⟩
            ·rw [if_neg c17] at H
             have c17b0 : decide (x40_4 < (x4_3.length : Int)) = false := decide_eq_false c17
             clear c17
             by_cases c22 : x8_4 < 0
             ·rw [if_pos c22] at H
              have c22b0 : decide (x8_4 < 0) = true := decide_eq_true c22
              clear c22
              simp only [Option.some.injEq, Prod.mk.injEq] at H
              obtain ⟨rfl, rfl⟩ := H
              go_wp2
              go_ret2
              exact ⟨_, by first | rfl | (simp [errW_none, errW_some] <;> rfl) | (simp [*, errW_none, errW_some] <;> rfl), by first | exact Kd.R_nil _ _ _ _ _ | exact Kd.N_nil _ _ _ _ _ | exact Kd.V_nil _ _ _ _ _ | exact Kd.Q_nil _ _ _ _ _ | exact Kd.S_nil _ _ _ _ _, blw_⟩
             ·rw [if_neg c22] at H
              have c22b0 : decide (x8_4 < 0) = false := decide_eq_false c22
              clear c22
              by_cases c23 : (x4_3.length : Int) = 0
              ·rw [if_pos c23] at H
               exact absurd H (by simp)
              ·rw [if_neg c23] at H
               have c23b0 : ((x4_3.length : Int) == 0) = false := beq_eq_false_iff_ne.mpr c23
               have c23b1 : ((x4_3.length : Int) != 0) = true := bne_iff_ne.mpr c23
               have c23b2 : ¬ (x4_3 = []) := fun h_ => c23 (by rw [h_]; rfl)
               obtain ⟨ji24, hji24⟩ : ∃ j_ : Int, (Int.tmod (wrap64 ((wrap64 (x8_4 + (x4_3.length : Int))) - 1)) (x4_3.length : Int)) = j_ := ⟨_, rfl⟩
               replace H : (if 0 ≤ (ji24) then (if (ji24) < (x4_3.length : Int) then ((some (x4_3.set ((ji24) : Int).toNat (wrap64 ((rd x4_3 (ji24)) - 1)) : List Int)).bind fun y255 => (if 0 ≤ (Int.tmod (wrap64 (x8_4 + 1)) (x4_3.length : Int)) then (if (Int.tmod (wrap64 (x8_4 + 1)) (x4_3.length : Int)) < (x4_3.length : Int) then ((some (y255.set ((Int.tmod (wrap64 (x8_4 + 1)) (x4_3.length : Int)) : Int).toNat (wrap64 ((rd y255 (Int.tmod (wrap64 (x8_4 + 1)) (x4_3.length : Int))) - 1)) : List Int)).bind fun y257 => (if (rd y257 (ji24)) < 1 then (spec_poOf.j4 k4 y257 x5_3 x7_3 x8_4 ji24 (Int.tmod (wrap64 (x8_4 + 1)) (x4_3.length : Int)) true) else (spec_poOf.j4 k4 y257 x5_3 x7_3 x8_4 ji24 (Int.tmod (wrap64 (x8_4 + 1)) (x4_3.length : Int)) (decide ((rd y257 (Int.tmod (wrap64 (x8_4 + 1)) (x4_3.length : Int))) < 1))))) else (none)) else (none))) else (none)) else (none)) = some (r1, r2) := by first | (rw [hji24] at H; exact H) | (simp only [hji24] at H ⊢; exact H)
               by_cases c25 : 0 ≤ (ji24)
               case neg=>rw [if_neg c25] at H;exact absurd H (by simp)
               rw [if_pos c25] at H
               have c25b0 : decide (0 ≤ (ji24)) = true := decide_eq_true c25
               clear c25
               by_cases c26 : (ji24) < (x4_3.length : Int)
               case neg=>rw [if_neg c26] at H;exact absurd H (by simp)
               rw [if_pos c26] at H
               have c26b0 : decide ((ji24) < (x4_3.length : Int)) = true := decide_eq_true c26
               clear c26
               obtain ⟨y255, hy255⟩ : ∃ y_ : List Int, y_ = (x4_3.set ((ji24) : Int).toNat (wrap64 ((rd x4_3 (ji24)) - 1))) := ⟨_, rfl⟩
               replace H : (if 0 ≤ (Int.tmod (wrap64 (x8_4 + 1)) (x4_3.length : Int)) then (if (Int.tmod (wrap64 (x8_4 + 1)) (x4_3.length : Int)) < (x4_3.length : Int) then ((some (y255.set ((Int.tmod (wrap64 (x8_4 + 1)) (x4_3.length : Int)) : Int).toNat (wrap64 ((rd y255 (Int.tmod (wrap64 (x8_4 + 1)) (x4_3.length : Int))) - 1)) : List Int)).bind fun y257 => (if (rd y257 (ji24)) < 1 then (spec_poOf.j4 k4 y257 x5_3 x7_3 x8_4 ji24 (Int.tmod (wrap64 (x8_4 + 1)) (x4_3.length : Int)) true) else (spec_poOf.j4 k4 y257 x5_3 x7_3 x8_4 ji24 (Int.tmod (wrap64 (x8_4 + 1)) (x4_3.length : Int)) (decide ((rd y257 (Int.tmod (wrap64 (x8_4 + 1)) (x4_3.length : Int))) < 1))))) else (none)) else (none)) = some (r1, r2) := by first | (rw [hy255]; with_reducible exact H) | (have H2_ := (Option.bind_some _ _).symm.trans H; rw [hy255]; with_reducible exact H2_) | (have H2_ := (Option.bind_some _ _).symm.trans H; with_reducible exact H2_) | with_reducible exact H | (rw [hy255]; exact H) | exact H
               have Ny255 := Aside0.mk hy255
               clear hy255
               obtain ⟨ji28, hji28⟩ : ∃ j_ : Int, (Int.tmod (wrap64 (x8_4 + 1)) (x4_3.length : Int)) = j_ := ⟨_, rfl⟩
               replace H : (if 0 ≤ (ji28) then (if (ji28) < (x4_3.length : Int) then ((some (y255.set ((ji28) : Int).toNat (wrap64 ((rd y255 (ji28)) - 1)) : List Int)).bind fun y257 => (if (rd y257 (ji24)) < 1 then (spec_poOf.j4 k4 y257 x5_3 x7_3 x8_4 ji24 ji28 true) else (spec_poOf.j4 k4 y257 x5_3 x7_3 x8_4 ji24 ji28 (decide ((rd y257 (ji28)) < 1))))) else (none)) else (none)) = some (r1, r2) := by first | (rw [hji28] at H; exact H) | (simp only [hji28] at H ⊢; exact H)
               by_cases c29 : 0 ≤ (ji28)
               case neg=>rw [if_neg c29] at H;exact absurd H (by simp)
               rw [if_pos c29] at H
               have c29b0 : decide (0 ≤ (ji28)) = true := decide_eq_true c29
               clear c29
               by_cases c30 : (ji28) < (x4_3.length : Int)
               case neg=>rw [if_neg c30] at H;exact absurd H (by simp)
               rw [if_pos c30] at H
               have c30b0 : decide ((ji28) < (x4_3.length : Int)) = true := decide_eq_true c30
               clear c30
               obtain ⟨y257, hy257⟩ : ∃ y_ : List Int, y_ = (y255.set ((ji28) : Int).toNat (wrap64 ((rd y255 (ji28)) - 1))) := ⟨_, rfl⟩
               replace H : (if (rd y257 (ji24)) < 1 then (spec_poOf.j4 k4 y257 x5_3 x7_3 x8_4 ji24 ji28 true) else (spec_poOf.j4 k4 y257 x5_3 x7_3 x8_4 ji24 ji28 (decide ((rd y257 (ji28)) < 1)))) = some (r1, r2) := by first | (rw [hy257]; with_reducible exact H) | (have H2_ := (Option.bind_some _ _).symm.trans H; rw [hy257]; with_reducible exact H2_) | (have H2_ := (Option.bind_some _ _).symm.trans H; with_reducible exact H2_) | with_reducible exact H | (rw [hy257]; exact H) | exact H
               have Ny257 := Aside0.mk hy257
               clear hy257
               have HC32 := Aside0.mk H
               clear H
               try go_wp2
               have n0_ := Aside0.mk (Kd.R_drew HO_4.out)
               have n1_ := Aside0.mk (Kd.R_drew HO_5.out)
               have n2_ := Aside0.mk (Kd.R_drew HO_7.out)
               have n3_ := Aside0.mk (Kd.R_drew HO_38.out)
               have n4_ := Aside0.mk (below_drew1 HB.out)
               clear HO_4
               clear HO_5
               clear HO_7
               clear HO_38
               clear HB
               have HO_4 := n0_
               have HO_5 := n1_
               have HO_7 := n2_
               have HO_38 := n3_
               have HB := n4_
               clear n0_ n1_ n2_ n3_ n4_
               refine start_ (n := 15) (S := fun w' => True) (ds := []) #[false, false, false, false, false, false, false, false, false, false, false, false, false, false, false] (by kernel_rfl) rfl rfl trivial (fun hHeld => ?_); refine with_tabW spec_poOf.tab20 spec_poOf.bits20 (fun HT_ HW_ => ?_)
               generalize wr.drew = w33 at HO_4 HO_5 HO_7 HO_38 HB hHeld ⊢
               refine pux_ 0 55 HT_ ?_
               refine pux_ 1 56 HT_ ?_
               refine pux_ 2 57 HT_ ?_
               refine pux_ 3 58 HT_ ?_
               refine pux_ 4 59 HT_ ?_
               refine pux_ 5 60 HT_ ?_
               refine pux_ 6 61 HT_ ?_
               refine pux_ 7 62 HT_ ?_
               refine pux_ 8 63 HT_ ?_
               refine pux_ 9 64 HT_ ?_
               refine pux_ 10 65 HT_ ?_
               refine pux_ 11 66 HT_ ?_
               refine pux_ 12 67 HT_ ?_
               refine pux_ 13 11 HT_ ?_
               refine pux_ 14 12 HT_ ?_
               refine done_ (done_of HT_.out (by kernel_rfl)) ?_
               have p254 : 0 ≤ ((ji24) : Int) := odt_
               have q254 : (ji24) < (x4_3.length : Int) := odt_
               obtain ⟨ad254, e254, hx254_0⟩ := Kd.at_int (Kd.R_reads' HO_4.out).2.2 (ji24) p254 q254
               cases e254
               replace p254 := eq_true p254
               replace q254 := eq_true q254
               have p27 : 0 ≤ ((ji24) : Int) := odt_
               have q27 : ((ji24) : Int) < ((x4_3.length : Int) : Int) := odt_
               obtain ⟨go27, co27, eo27, gb27, gl27, cl27, HG27⟩ := Kd.R_form HO_4.out (by omega)
               (first | cases eo27 | (injection eo27 with ea_ en_ ec_; (first | subst ea_ | (injection ea_ with ea_; subst ea_)); subst ec_; clear en_))
               have GB27 := Aside0.mk gb27
               have GG27 := Aside0.mk HG27
               clear gb27 gl27 HG27
               (first | simp only [add_plain] at hx254_0 | skip)
               obtain ⟨hx27_0, hf27_0⟩ := Kd.R_celln 0 HO_4.out ((ji24) : Int) p27 q27
               replace p27 := eq_true p27
               replace q27 := eq_true q27
               obtain ⟨hy34_, hz34_⟩ := Kd.R_celln 0 HO_4.out ((ji24) : Int) (odt_) (odt_)
               have HP34 := Kd.R_putg HO_4.out ((ji24) : Int) (wrap64 ((rd x4_3 (ji24)) - 1))
               go_upto_region 23 with (first | ((with_reducible refine gate_store (t := 3) (p := 73) rfl ?_); refine store_event (t := 3) (p := 73) (v := ?vo_w35) (w1 := (w33.setCell ⟨go27, ((ji24) : Int).toNat, none⟩ (.int .i64 (wrap64 ((rd x4_3 (ji24)) - 1))))) ?hg ?ho ?hn ?hr ?_; (case ho => rfl); (case hg => rfl); (case hn => rfl); (case hr => first | (go_simp; done) | (go_simp; rfl)); intro w35 hw; have hg : w33.grownBy w35 (some go27) := (by rw [hw]; exact HP34.2); have hp_ : Kd.R (Kd.int .i64) 3 w35 w.heap.size (fun k_ => some k_ ≠ (u5 : Value).ownBlock) (.slice (some ⟨go27, 0, none⟩) x4_3.length co16) y255 := (by rw [hw, Ny255.out]; exact HP34.1); clear HP34; have n0_ := Aside0.mk (hp_); have n1_ := Aside0.mk (Kd.R_after (v := (.slice (some ⟨go27, 0, none⟩) x4_3.length co16)) (v1 := (.slice (some ⟨go27, 0, none⟩) x4_3.length co16)) (ok := (fun k_ => some k_ ≠ (.slice (some ⟨go27, 0, none⟩) x4_3.length co16 : Value).ownBlock)) (by (with_reducible repeat (first | apply Kd.R_alloc | apply Kd.R_drewN | apply Kd.R_drew)); exact Kd.R_mono HO_5.out (fun _ hk => ⟨hk.2, hk.1⟩)) hg (.inl rfl)); have n2_ := Aside0.mk (Kd.R_over' (v := (.slice (some ⟨go27, 0, none⟩) x4_3.length co16)) (ra_ HO_7.out) (Kd.R_typed HO_4.out) (by decide) hg); have n4_ := Aside0.mk ((by rw [hw]; exact below_set (HB.out) GB27.out : Below w.heap.size w w35)); clear HO_4; clear HO_5; clear HO_7; clear HB; have HO_4 := n0_; have HO_5 := n1_; have HO_7 := n2_; have HB := n4_; clear n0_ n1_ n2_ n4_; clear hg hw hp_; have p256 : 0 ≤ ((ji28) : Int) := odt_; have q256 : (ji28) < (y255.length : Int) := (by have h_ : ((ji28) : Int) < ((x4_3.length : Int) : Int) := odt_; first | (have e_ := (Kd.R_reads' HO_4.out).1; omega) | simpa only [Ny255.out, List.length_set] using h_); have ql256 : (((ji28) : Int) < ((x4_3.length : Int) : Int)) = True := eq_true (odt_); obtain ⟨ad256, e256, hx256_0⟩ := Kd.at_int (Kd.R_reads' HO_4.out).2.2 (ji28) p256 q256; obtain rfl : (⟨go27, 0, none⟩ : Addr) = ad256 := (by injection e256); (first | simp only [add_plain] at hx256_0 | simp only [add_at] at hx256_0 | simp only [Addr.add, Nat.zero_add] at hx256_0 | skip); replace p256 := eq_true p256; replace q256 := eq_true q256; have p31 : 0 ≤ ((ji28) : Int) := odt_; have q31 : ((ji28) : Int) < ((x4_3.length : Int) : Int) := odt_; obtain ⟨hx31_0, hf31_0⟩ := Kd.R_celln 0 HO_4.out ((ji28) : Int) p31 q31; replace p31 := eq_true p31; replace q31 := eq_true q31; obtain ⟨hy36_, hz36_⟩ := Kd.R_celln 0 HO_4.out ((ji28) : Int) (odt_) (odt_); have HP36 := Kd.R_putg HO_4.out ((ji28) : Int) (wrap64 ((rd y255 (ji28)) - 1))) | ((with_reducible refine gate_store (t := 3) (p := 79) rfl ?_); refine store_event (t := 3) (p := 79) (v := ?vo_w37) (w1 := (w35.setCell ⟨go27, ((ji28) : Int).toNat, none⟩ (.int .i64 (wrap64 ((rd y255 (ji28)) - 1))))) ?hg ?ho ?hn ?hr ?_; (case ho => rfl); (case hg => rfl); (case hn => rfl); (case hr => first | (go_simp; done) | (go_simp; rfl)); intro w37 hw; have hg : w35.grownBy w37 (some go27) := (by rw [hw]; exact HP36.2); have hp_ : Kd.R (Kd.int .i64) 3 w37 w.heap.size (fun k_ => some k_ ≠ (u5 : Value).ownBlock) (.slice (some ⟨go27, 0, none⟩) x4_3.length co16) y257 := (by rw [hw, Ny257.out]; exact HP36.1); clear HP36; have n0_ := Aside0.mk (hp_); have n1_ := Aside0.mk (Kd.R_after (v := (.slice (some ⟨go27, 0, none⟩) x4_3.length co16)) (v1 := (.slice (some ⟨go27, 0, none⟩) x4_3.length co16)) (ok := (fun k_ => some k_ ≠ (.slice (some ⟨go27, 0, none⟩) x4_3.length co16 : Value).ownBlock)) (ra_ HO_5.out) hg (.inl rfl)); have n2_ := Aside0.mk (Kd.R_over' (v := (.slice (some ⟨go27, 0, none⟩) x4_3.length co16)) (ra_ HO_7.out) (Kd.R_typed HO_4.out) (by decide) hg); have n4_ := Aside0.mk ((by rw [hw]; exact below_set (HB.out) GB27.out : Below w.heap.size w w37)); clear HO_4; clear HO_5; clear HO_7; clear HB; have HO_4 := n0_; have HO_5 := n1_; have HO_7 := n2_; have HB := n4_; clear n0_ n1_ n2_ n4_; clear hg hw hp_))
               (try simp only [Act.put, List.setIfInBounds_toArray, List.set_cons_zero, List.set_cons_succ])
               go_cut [91] (fun v91 wc => ∃ (kq : Nat) (x91_31 : Bool), v91 = .bool x91_31 ∧ Aside0 (spec_poOf.j4 kq y257 x5_3 x7_3 x8_4 ji24 ji28 x91_31 = some (r1, r2)) ∧ Aside0 (kq ≤ k4) ∧ Aside0 (Kd.R (Kd.int .i64) 3 wc w.heap.size (fun k_ => some k_ ≠ (u5 : Value).ownBlock) (.slice (some ⟨go27, 0, none⟩) x4_3.length co16) y257) ∧ Aside0 (Kd.R (Kd.int .i64) 3 wc w.heap.size (fun k_ => some k_ ≠ ((.slice (some ⟨go27, 0, none⟩) x4_3.length co16) : Value).ownBlock) u5 x5_3) ∧ Aside0 (Kd.R k52 52 wc w.heap.size (fun _ => True) u7 x7_3) ∧ Aside0 (Below w.heap.size w wc))
               case first =>
                have H := HC32.out
                clear HC32
                by_cases c38 : (rd y257 (ji24)) < 1
                ·rw [if_pos c38] at H
                 have c38b0 : decide ((rd y257 (ji24)) < 1) = true := decide_eq_true c38
                 clear c38
                 (first | rw [c38b0] | (simp only [i64_w, i32_w]; rw [c38b0]) | skip)
                 have H' := Aside0.mk H
                 clear H
                 have p258 : 0 ≤ ((ji24) : Int) := odt_
                 have q258 : (ji24) < (y257.length : Int) := (by have h_ : ((ji24) : Int) < ((x4_3.length : Int) : Int) := odt_; first | (have e_ := (Kd.R_reads' HO_4.out).1; omega) | simpa only [Ny255.out, Ny257.out, List.length_set] using h_)
                 have ql258 : (((ji24) : Int) < ((x4_3.length : Int) : Int)) = True := eq_true (odt_)
                 obtain ⟨ad258, e258, hx258_0⟩ := Kd.at_int (Kd.R_reads' HO_4.out).2.2 (ji24) p258 q258
                 obtain rfl : (⟨go27, 0, none⟩ : Addr) = ad258 := (by injection e258)
                 (first | simp only [add_plain] at hx258_0 | simp only [add_at] at hx258_0 | simp only [Addr.add, Nat.zero_add] at hx258_0 | skip)
                 replace p258 := eq_true p258
                 replace q258 := eq_true q258
                 go_wp2
                 go_meet
                 case rel => exact ⟨_, (true), rsd_, H', ⟨by have := HJ1.out; have := HK2.out; have := HK3.out; have := HK4.out; first | omega | exact Nat.le_refl _⟩, ⟨ra_ HO_4.out⟩, ⟨by (with_reducible repeat (first | apply Kd.R_alloc | apply Kd.R_drewN | apply Kd.R_drew)); exact Kd.R_mono HO_5.out (fun _ hk => hk.2)⟩, ⟨ra_ HO_7.out⟩, ⟨blw_⟩⟩
                ·rw [if_neg c38] at H
                 have c38b0 : decide ((rd y257 (ji24)) < 1) = false := decide_eq_false c38
                 clear c38
                 (first | rw [c38b0] | (simp only [i64_w, i32_w]; rw [c38b0]) | skip)
                 have H' := Aside0.mk H
                 clear H
                 have p258 : 0 ≤ ((ji24) : Int) := odt_
                 have q258 : (ji24) < (y257.length : Int) := (by have h_ : ((ji24) : Int) < ((x4_3.length : Int) : Int) := odt_; first | (have e_ := (Kd.R_reads' HO_4.out).1; omega) | simpa only [Ny255.out, Ny257.out, List.length_set] using h_)
                 have ql258 : (((ji24) : Int) < ((x4_3.length : Int) : Int)) = True := eq_true (odt_)
                 obtain ⟨ad258, e258, hx258_0⟩ := Kd.at_int (Kd.R_reads' HO_4.out).2.2 (ji24) p258 q258
                 obtain rfl : (⟨go27, 0, none⟩ : Addr) = ad258 := (by injection e258)
                 (first | simp only [add_plain] at hx258_0 | simp only [add_at] at hx258_0 | simp only [Addr.add, Nat.zero_add] at hx258_0 | skip)
                 replace p258 := eq_true p258
                 replace q258 := eq_true q258
                 have p259 : 0 ≤ ((ji28) : Int) := odt_
                 have q259 : (ji28) < (y257.length : Int) := (by have h_ : ((ji28) : Int) < ((x4_3.length : Int) : Int) := odt_; first | (have e_ := (Kd.R_reads' HO_4.out).1; omega) | simpa only [Ny255.out, Ny257.out, List.length_set] using h_)
                 have ql259 : (((ji28) : Int) < ((x4_3.length : Int) : Int)) = True := eq_true (odt_)
                 obtain ⟨ad259, e259, hx259_0⟩ := Kd.at_int (Kd.R_reads' HO_4.out).2.2 (ji28) p259 q259
                 obtain rfl : (⟨go27, 0, none⟩ : Addr) = ad259 := (by injection e259)
                 (first | simp only [add_plain] at hx259_0 | simp only [add_at] at hx259_0 | simp only [Addr.add, Nat.zero_add] at hx259_0 | skip)
                 replace p259 := eq_true p259
                 replace q259 := eq_true q259
                 go_wp2
                 go_meet
                 case rel => exact ⟨_, (decide ((rd y257 (ji28)) < 1)), (by first | rfl | (simp; done) | (simp only [← hji28] <;> (first | rfl | simp)) | (simp [*]; done)), H', ⟨by have := HJ1.out; have := HK2.out; have := HK3.out; have := HK4.out; first | omega | exact Nat.le_refl _⟩, ⟨ra_ HO_4.out⟩, ⟨by (with_reducible repeat (first | apply Kd.R_alloc | apply Kd.R_drewN | apply Kd.R_drew)); exact Kd.R_mono HO_5.out (fun _ hk => hk.2)⟩, ⟨ra_ HO_7.out⟩, ⟨blw_⟩⟩
               case rest =>
                clear HC32
                try clear c1
                try clear c2
                try clear p2
                try clear q2
                try clear hx2
                try clear hf2
                try clear c3
                try clear p3
                try clear q3
                try clear hx3
                try clear hf3
                try clear c4
                try clear c5
                try clear c6
                try clear p6
                try clear c7
                try clear c8
                try clear c12
                try clear c12b0
                try clear c13
                try clear c15
                try clear c15b0
                try clear c15b1
                try clear c17
                try clear c17b0
                try clear c18
                try clear c18b0
                try clear c19
                try clear c19b0
                try clear c20
                try clear c20b0
                try clear c20b1
                try clear c21
                try clear c21b0
                try clear c22
                try clear c22b0
                try clear c23
                try clear c23b0
                try clear c23b1
                try clear c23b2
                try clear c25
                try clear c25b0
                try clear p25
                try clear q25
                try clear hx25
                try clear c26
                try clear c26b0
                try clear p27
                try clear q27
                try clear hx27
                try clear hf27
                try clear c29
                try clear c29b0
                try clear c30
                try clear c30b0
                try clear p31
                try clear q31
                try clear hx31
                try clear hf31
                try clear c38
                try clear c38b0
                try clear hx253_0
                try clear hx254_0
                try clear hx256_0
                try clear hx258_0
                try clear hx259_0
                try clear hx27_0
                try clear hx31_0
                try clear p2
                try clear p253
                try clear p254
                try clear p256
                try clear p258
                try clear p259
                try clear p27
                try clear p31
                try clear p6
                try clear q253
                try clear q254
                try clear q256
                try clear q258
                try clear q259
                try clear q27
                try clear q31
                obtain ⟨kq, x91_31, rfl, HA, HJ31, HO_4, HO_5, HO_7, HB⟩ := hcut
                have hl4_31 := (Kd.R_reads' HO_4.out).1
                rw [hl4_31] at HO_4
                (try simp only [hl4_31])
                (try simp only [hl4_31] at HO_5)
                (try simp only [hl4_31] at HO_7)
                cases kq with
                | zero => exact absurd HA.out (by simp [spec_poOf.j4])
                | succ kj31 =>
                 have H := HA.out
                 clear HA
                 simp only [spec_poOf.j4] at H
                 by_cases c39 : x91_31 = true
                 ·subst c39
                  have H1 : (some (([] : List (S52)), false)) = some (r1, r2) := by rw [if_pos rfl] at H; exact H
                  clear H
                  have H := H1
                  clear H1
                  simp only [Option.some.injEq, Prod.mk.injEq] at H
                  obtain ⟨rfl, rfl⟩ := H
                  go_wp2
                  go_ret2
                  exact ⟨_, by first | rfl | (simp [errW_none, errW_some] <;> rfl) | (simp only [← hji24, ← hji28]; first | rfl | (simp [errW_none, errW_some] <;> rfl)) | (simp [*, errW_none, errW_some] <;> rfl), by first | exact Kd.R_nil _ _ _ _ _ | exact Kd.N_nil _ _ _ _ _ | exact Kd.V_nil _ _ _ _ _ | exact Kd.Q_nil _ _ _ _ _ | exact Kd.S_nil _ _ _ _ _, blw_⟩
                 ·replace c39 := Bool.eq_false_iff.mpr c39
                  subst c39
                  have H1 : (if 0 ≤ ji24 then (if ji24 < (x5_3.length : Int) then (if 0 ≤ ji28 then (if ji28 < (x5_3.length : Int) then ((spec_l1Least.f (rd x5_3 ji24) (rd x5_3 ji28)).bind fun t262 => ((spec_l1Most.f (rd x5_3 ji24) (rd x5_3 ji28)).bind fun t265 => (if x7_3.length < 8796093022208 then (if 0 ≤ x8_4 then (if x8_4 ≤ (y257.length : Int) then ((spec_l1Own.f (y257.take (x8_4 : Int).toNat)).bind fun t273 => (if 0 ≤ (wrap64 (x8_4 + 1)) then (if (wrap64 (x8_4 + 1)) ≤ (y257.length : Int) then ((some (y257.drop ((wrap64 (x8_4 + 1)) : Int).toNat : List Int)).bind fun y276 => (if t273.length + y276.length < 17592186044416 then (if x8_4 ≤ (x5_3.length : Int) then ((spec_l1Own.f (x5_3.take (x8_4 : Int).toNat)).bind fun t287 => (if (wrap64 (x8_4 + 1)) ≤ (x5_3.length : Int) then ((some (x5_3.drop ((wrap64 (x8_4 + 1)) : Int).toNat : List Int)).bind fun y290 => (if t287.length + y290.length < 17592186044416 then (spec_poOf.l1 kj31 (t273 ++ y276) (t287 ++ y290) (x7_3 ++ [(⟨t262, t265⟩ : S52)])) else (none))) else (none))) else (none)) else (none))) else (none)) else (none))) else (none)) else (none)) else (none)))) else (none)) else (none)) else (none)) else (none)) = some (r1, r2) := by rw [if_neg (show ¬ (false = true) by decide)] at H; exact H
                  clear H
                  have H := H1
                  clear H1
                  by_cases c40 : 0 ≤ ji24
                  case neg=>rw [if_neg c40] at H;exact absurd H (by simp)
                  rw [if_pos c40] at H
                  have c40b0 : decide (0 ≤ ji24) = true := decide_eq_true c40
                  clear c40
                  by_cases c41 : ji24 < (x5_3.length : Int)
                  case neg=>rw [if_neg c41] at H;exact absurd H (by simp)
                  rw [if_pos c41] at H
                  have c41b0 : decide (ji24 < (x5_3.length : Int)) = true := decide_eq_true c41
                  clear c41
                  by_cases c42 : 0 ≤ ji28
                  case neg=>rw [if_neg c42] at H;exact absurd H (by simp)
                  rw [if_pos c42] at H
                  have c42b0 : decide (0 ≤ ji28) = true := decide_eq_true c42
                  clear c42
                  by_cases c43 : ji28 < (x5_3.length : Int)
                  case neg=>rw [if_neg c43] at H;exact absurd H (by simp)
                  rw [if_pos c43] at H
                  have c43b0 : decide (ji28 < (x5_3.length : Int)) = true := decide_eq_true c43
                  clear c43
                  replace H := Option.bind_eq_some_iff.mp H
                  obtain ⟨t262, A440, H⟩ := H
                  replace H : ((spec_l1Most.f (rd x5_3 ji24) (rd x5_3 ji28)).bind fun t265 => (if x7_3.length < 8796093022208 then (if 0 ≤ x8_4 then (if x8_4 ≤ (y257.length : Int) then ((spec_l1Own.f (y257.take (x8_4 : Int).toNat)).bind fun t273 => (if 0 ≤ (wrap64 (x8_4 + 1)) then (if (wrap64 (x8_4 + 1)) ≤ (y257.length : Int) then ((some (y257.drop ((wrap64 (x8_4 + 1)) : Int).toNat : List Int)).bind fun y276 => (if t273.length + y276.length < 17592186044416 then (if x8_4 ≤ (x5_3.length : Int) then ((spec_l1Own.f (x5_3.take (x8_4 : Int).toNat)).bind fun t287 => (if (wrap64 (x8_4 + 1)) ≤ (x5_3.length : Int) then ((some (x5_3.drop ((wrap64 (x8_4 + 1)) : Int).toNat : List Int)).bind fun y290 => (if t287.length + y290.length < 17592186044416 then (spec_poOf.l1 kj31 (t273 ++ y276) (t287 ++ y290) (x7_3 ++ [(⟨t262, t265⟩ : S52)])) else (none))) else (none))) else (none)) else (none))) else (none)) else (none))) else (none)) else (none)) else (none))) = some (r1, r2) := H
                  have A44 := Aside0.mk A440
                  clear A440
                  replace H := Option.bind_eq_some_iff.mp H
                  obtain ⟨t265, A450, H⟩ := H
                  replace H : (if x7_3.length < 8796093022208 then (if 0 ≤ x8_4 then (if x8_4 ≤ (y257.length : Int) then ((spec_l1Own.f (y257.take (x8_4 : Int).toNat)).bind fun t273 => (if 0 ≤ (wrap64 (x8_4 + 1)) then (if (wrap64 (x8_4 + 1)) ≤ (y257.length : Int) then ((some (y257.drop ((wrap64 (x8_4 + 1)) : Int).toNat : List Int)).bind fun y276 => (if t273.length + y276.length < 17592186044416 then (if x8_4 ≤ (x5_3.length : Int) then ((spec_l1Own.f (x5_3.take (x8_4 : Int).toNat)).bind fun t287 => (if (wrap64 (x8_4 + 1)) ≤ (x5_3.length : Int) then ((some (x5_3.drop ((wrap64 (x8_4 + 1)) : Int).toNat : List Int)).bind fun y290 => (if t287.length + y290.length < 17592186044416 then (spec_poOf.l1 kj31 (t273 ++ y276) (t287 ++ y290) (x7_3 ++ [(⟨t262, t265⟩ : S52)])) else (none))) else (none))) else (none)) else (none))) else (none)) else (none))) else (none)) else (none)) else (none)) = some (r1, r2) := H
                  have A45 := Aside0.mk A450
                  clear A450
                  by_cases c46 : x7_3.length < 8796093022208
                  case neg=>rw [if_neg c46] at H;exact absurd H (by simp)
                  rw [if_pos c46] at H
                  have LMc46 := Aside0.mk c46
                  clear c46
                  obtain ⟨y266, hy266⟩ : ∃ y_ : List (S52), y_ = (x7_3 ++ [(⟨t262, t265⟩ : S52)]) := ⟨_, rfl⟩
                  replace H : (if 0 ≤ x8_4 then (if x8_4 ≤ (y257.length : Int) then ((spec_l1Own.f (y257.take (x8_4 : Int).toNat)).bind fun t273 => (if 0 ≤ (wrap64 (x8_4 + 1)) then (if (wrap64 (x8_4 + 1)) ≤ (y257.length : Int) then ((some (y257.drop ((wrap64 (x8_4 + 1)) : Int).toNat : List Int)).bind fun y276 => (if t273.length + y276.length < 17592186044416 then (if x8_4 ≤ (x5_3.length : Int) then ((spec_l1Own.f (x5_3.take (x8_4 : Int).toNat)).bind fun t287 => (if (wrap64 (x8_4 + 1)) ≤ (x5_3.length : Int) then ((some (x5_3.drop ((wrap64 (x8_4 + 1)) : Int).toNat : List Int)).bind fun y290 => (if t287.length + y290.length < 17592186044416 then (spec_poOf.l1 kj31 (t273 ++ y276) (t287 ++ y290) y266) else (none))) else (none))) else (none)) else (none))) else (none)) else (none))) else (none)) else (none)) = some (r1, r2) := by first | (rw [hy266]; with_reducible exact H) | (have H2_ := (Option.bind_some _ _).symm.trans H; rw [hy266]; with_reducible exact H2_) | (have H2_ := (Option.bind_some _ _).symm.trans H; with_reducible exact H2_) | with_reducible exact H | (rw [hy266]; exact H) | exact H
                  have Ny266 := Aside0.mk hy266
                  clear hy266
                  by_cases c47 : 0 ≤ x8_4
                  case neg=>rw [if_neg c47] at H;exact absurd H (by simp)
                  rw [if_pos c47] at H
                  have c47b0 := eq_true c47
                  have c47b1 : decide (0 ≤ x8_4) = true := decide_eq_true c47
                  clear c47
                  by_cases c48 : x8_4 ≤ (y257.length : Int)
                  case neg=>rw [if_neg c48] at H;exact absurd H (by simp)
                  rw [if_pos c48] at H
                  have c48b0 := eq_true c48
                  have c48b1 : decide (x8_4 ≤ (y257.length : Int)) = true := decide_eq_true c48
                  clear c48
                  obtain ⟨y269, hy269⟩ : ∃ y_ : List Int, y_ = (y257.take (x8_4 : Int).toNat) := ⟨_, rfl⟩
                  replace H : ((spec_l1Own.f y269).bind fun t273 => (if 0 ≤ (wrap64 (x8_4 + 1)) then (if (wrap64 (x8_4 + 1)) ≤ (y257.length : Int) then ((some (y257.drop ((wrap64 (x8_4 + 1)) : Int).toNat : List Int)).bind fun y276 => (if t273.length + y276.length < 17592186044416 then (if x8_4 ≤ (x5_3.length : Int) then ((spec_l1Own.f (x5_3.take (x8_4 : Int).toNat)).bind fun t287 => (if (wrap64 (x8_4 + 1)) ≤ (x5_3.length : Int) then ((some (x5_3.drop ((wrap64 (x8_4 + 1)) : Int).toNat : List Int)).bind fun y290 => (if t287.length + y290.length < 17592186044416 then (spec_poOf.l1 kj31 (t273 ++ y276) (t287 ++ y290) y266) else (none))) else (none))) else (none)) else (none))) else (none)) else (none))) = some (r1, r2) := by first | (rw [hy269]; with_reducible exact H) | (have H2_ := (Option.bind_some _ _).symm.trans H; rw [hy269]; with_reducible exact H2_) | (have H2_ := (Option.bind_some _ _).symm.trans H; with_reducible exact H2_) | with_reducible exact H | (rw [hy269]; exact H) | exact H
                  have Ny269 := Aside0.mk hy269
                  clear hy269
                  replace H := Option.bind_eq_some_iff.mp H
                  obtain ⟨t273, A490, H⟩ := H
                  replace H : (if 0 ≤ (wrap64 (x8_4 + 1)) then (if (wrap64 (x8_4 + 1)) ≤ (y257.length : Int) then ((some (y257.drop ((wrap64 (x8_4 + 1)) : Int).toNat : List Int)).bind fun y276 => (if t273.length + y276.length < 17592186044416 then (if x8_4 ≤ (x5_3.length : Int) then ((spec_l1Own.f (x5_3.take (x8_4 : Int).toNat)).bind fun t287 => (if (wrap64 (x8_4 + 1)) ≤ (x5_3.length : Int) then ((some (x5_3.drop ((wrap64 (x8_4 + 1)) : Int).toNat : List Int)).bind fun y290 => (if t287.length + y290.length < 17592186044416 then (spec_poOf.l1 kj31 (t273 ++ y276) (t287 ++ y290) y266) else (none))) else (none))) else (none)) else (none))) else (none)) else (none)) = some (r1, r2) := H
                  have A49 := Aside0.mk A490
                  clear A490
                  obtain ⟨ji50, hji50⟩ : ∃ j_ : Int, (wrap64 (x8_4 + 1)) = j_ := ⟨_, rfl⟩
                  replace H : (if 0 ≤ (ji50) then (if (ji50) ≤ (y257.length : Int) then ((some (y257.drop ((ji50) : Int).toNat : List Int)).bind fun y276 => (if t273.length + y276.length < 17592186044416 then (if x8_4 ≤ (x5_3.length : Int) then ((spec_l1Own.f (x5_3.take (x8_4 : Int).toNat)).bind fun t287 => (if (ji50) ≤ (x5_3.length : Int) then ((some (x5_3.drop ((ji50) : Int).toNat : List Int)).bind fun y290 => (if t287.length + y290.length < 17592186044416 then (spec_poOf.l1 kj31 (t273 ++ y276) (t287 ++ y290) y266) else (none))) else (none))) else (none)) else (none))) else (none)) else (none)) = some (r1, r2) := by first | (rw [hji50] at H; exact H) | (simp only [hji50] at H ⊢; exact H)
                  (try rw [hji50] at A44)
                  (try rw [hji50] at A45)
                  (try rw [hji50] at A49)
                  have hji50w : (IntKind.i64.wrap (x8_4 + 1)) = ji50 := (i64_w _).trans hji50
                  by_cases c51 : 0 ≤ (ji50)
                  case neg=>rw [if_neg c51] at H;exact absurd H (by simp)
                  rw [if_pos c51] at H
                  have c51b0 := eq_true c51
                  have c51b1 : decide (0 ≤ (ji50)) = true := decide_eq_true c51
                  clear c51
                  by_cases c52 : (ji50) ≤ (y257.length : Int)
                  case neg=>rw [if_neg c52] at H;exact absurd H (by simp)
                  rw [if_pos c52] at H
                  have c52b0 := eq_true c52
                  have c52b1 : decide ((ji50) ≤ (y257.length : Int)) = true := decide_eq_true c52
                  clear c52
                  obtain ⟨y276, hy276⟩ : ∃ y_ : List Int, y_ = (y257.drop ((ji50) : Int).toNat) := ⟨_, rfl⟩
                  replace H : (if t273.length + y276.length < 17592186044416 then (if x8_4 ≤ (x5_3.length : Int) then ((spec_l1Own.f (x5_3.take (x8_4 : Int).toNat)).bind fun t287 => (if (ji50) ≤ (x5_3.length : Int) then ((some (x5_3.drop ((ji50) : Int).toNat : List Int)).bind fun y290 => (if t287.length + y290.length < 17592186044416 then (spec_poOf.l1 kj31 (t273 ++ y276) (t287 ++ y290) y266) else (none))) else (none))) else (none)) else (none)) = some (r1, r2) := by first | (rw [hy276]; with_reducible exact H) | (have H2_ := (Option.bind_some _ _).symm.trans H; rw [hy276]; with_reducible exact H2_) | (have H2_ := (Option.bind_some _ _).symm.trans H; with_reducible exact H2_) | with_reducible exact H | (rw [hy276]; exact H) | exact H
                  have Ny276 := Aside0.mk hy276
                  clear hy276
                  by_cases c53 : t273.length + y276.length < 17592186044416
                  case neg=>rw [if_neg c53] at H;exact absurd H (by simp)
                  rw [if_pos c53] at H
                  have LMc53 := Aside0.mk c53
                  clear c53
                  obtain ⟨y280, hy280⟩ : ∃ y_ : List Int, y_ = (t273 ++ y276) := ⟨_, rfl⟩
                  replace H : (if x8_4 ≤ (x5_3.length : Int) then ((spec_l1Own.f (x5_3.take (x8_4 : Int).toNat)).bind fun t287 => (if (ji50) ≤ (x5_3.length : Int) then ((some (x5_3.drop ((ji50) : Int).toNat : List Int)).bind fun y290 => (if t287.length + y290.length < 17592186044416 then (spec_poOf.l1 kj31 y280 (t287 ++ y290) y266) else (none))) else (none))) else (none)) = some (r1, r2) := by first | (rw [hy280]; with_reducible exact H) | (have H2_ := (Option.bind_some _ _).symm.trans H; rw [hy280]; with_reducible exact H2_) | (have H2_ := (Option.bind_some _ _).symm.trans H; with_reducible exact H2_) | with_reducible exact H | (rw [hy280]; exact H) | exact H
                  have Ny280 := Aside0.mk hy280
                  clear hy280
                  have c54b0 := eq_true (odt_ : 0 ≤ x8_4)
                  by_cases c55 : x8_4 ≤ (x5_3.length : Int)
                  case neg=>rw [if_neg c55] at H;exact absurd H (by simp)
                  rw [if_pos c55] at H
                  have c55b0 := eq_true c55
                  have c55b1 : decide (x8_4 ≤ (x5_3.length : Int)) = true := decide_eq_true c55
                  clear c55
                  obtain ⟨y283, hy283⟩ : ∃ y_ : List Int, y_ = (x5_3.take (x8_4 : Int).toNat) := ⟨_, rfl⟩
                  replace H : ((spec_l1Own.f y283).bind fun t287 => (if (ji50) ≤ (x5_3.length : Int) then ((some (x5_3.drop ((ji50) : Int).toNat : List Int)).bind fun y290 => (if t287.length + y290.length < 17592186044416 then (spec_poOf.l1 kj31 y280 (t287 ++ y290) y266) else (none))) else (none))) = some (r1, r2) := by first | (rw [hy283]; with_reducible exact H) | (have H2_ := (Option.bind_some _ _).symm.trans H; rw [hy283]; with_reducible exact H2_) | (have H2_ := (Option.bind_some _ _).symm.trans H; with_reducible exact H2_) | with_reducible exact H | (rw [hy283]; exact H) | exact H
                  have Ny283 := Aside0.mk hy283
                  clear hy283
                  replace H := Option.bind_eq_some_iff.mp H
                  obtain ⟨t287, A560, H⟩ := H
                  replace H : (if (ji50) ≤ (x5_3.length : Int) then ((some (x5_3.drop ((ji50) : Int).toNat : List Int)).bind fun y290 => (if t287.length + y290.length < 17592186044416 then (spec_poOf.l1 kj31 y280 (t287 ++ y290) y266) else (none))) else (none)) = some (r1, r2) := H
                  have A56 := Aside0.mk A560
                  clear A560
                  have c57b0 := eq_true (odt_ : 0 ≤ (ji50))
                  by_cases c58 : (ji50) ≤ (x5_3.length : Int)
                  case neg=>rw [if_neg c58] at H;exact absurd H (by simp)
                  rw [if_pos c58] at H
                  have c58b0 := eq_true c58
                  have c58b1 : decide ((ji50) ≤ (x5_3.length : Int)) = true := decide_eq_true c58
                  clear c58
                  obtain ⟨y290, hy290⟩ : ∃ y_ : List Int, y_ = (x5_3.drop ((ji50) : Int).toNat) := ⟨_, rfl⟩
                  replace H : (if t287.length + y290.length < 17592186044416 then (spec_poOf.l1 kj31 y280 (t287 ++ y290) y266) else (none)) = some (r1, r2) := by first | (rw [hy290]; with_reducible exact H) | (have H2_ := (Option.bind_some _ _).symm.trans H; rw [hy290]; with_reducible exact H2_) | (have H2_ := (Option.bind_some _ _).symm.trans H; with_reducible exact H2_) | with_reducible exact H | (rw [hy290]; exact H) | exact H
                  have Ny290 := Aside0.mk hy290
                  clear hy290
                  by_cases c59 : t287.length + y290.length < 17592186044416
                  case neg=>rw [if_neg c59] at H;exact absurd H (by simp)
                  rw [if_pos c59] at H
                  have LMc59 := Aside0.mk c59
                  clear c59
                  obtain ⟨y294, hy294⟩ : ∃ y_ : List Int, y_ = (t287 ++ y290) := ⟨_, rfl⟩
                  replace H : (spec_poOf.l1 kj31 y280 y294 y266) = some (r1, r2) := by first | (rw [hy294]; with_reducible exact H) | (have H2_ := (Option.bind_some _ _).symm.trans H; rw [hy294]; with_reducible exact H2_) | (have H2_ := (Option.bind_some _ _).symm.trans H; with_reducible exact H2_) | with_reducible exact H | (rw [hy294]; exact H) | exact H
                  have Ny294 := Aside0.mk hy294
                  clear hy294
                  have H' := Aside0.mk H
                  clear H
                  try go_wp2
                  have n0_ := Aside0.mk (Kd.R_drew HO_4.out)
                  have n1_ := Aside0.mk (Kd.R_drew HO_5.out)
                  have n2_ := Aside0.mk (Kd.R_drew HO_7.out)
                  have n3_ := Aside0.mk (below_drew1 HB.out)
                  clear HO_4
                  clear HO_5
                  clear HO_7
                  clear HB
                  have HO_4 := n0_
                  have HO_5 := n1_
                  have HO_7 := n2_
                  have HB := n3_
                  clear n0_ n1_ n2_ n3_
                  obtain ⟨Ao61, co61, eo61⟩ := Kd.R_slice HO_5.out
                  (first | subst eo61 | (injection eo61 with f1_ f2_ f3_; have f4_ := f1_.symm; have f5_ := f3_.symm; clear f1_ f2_ f3_; subst f4_; subst f5_))
                  have p260 : 0 ≤ (ji24 : Int) := odt_
                  have q260 : ji24 < (x5_3.length : Int) := odt_
                  obtain ⟨ad260, e260, hx260_0⟩ := Kd.at_int (Kd.R_reads' HO_5.out).2.2 ji24 p260 q260
                  cases e260
                  replace p260 := eq_true p260
                  replace q260 := eq_true q260
                  have p261 : 0 ≤ (ji28 : Int) := odt_
                  have q261 : ji28 < (x5_3.length : Int) := odt_
                  obtain ⟨ad261, e261, hx261_0⟩ := Kd.at_int (Kd.R_reads' HO_5.out).2.2 ji28 p261 q261
                  obtain rfl : ad260 = ad261 := (by injection e261)
                  replace p261 := eq_true p261
                  replace q261 := eq_true q261
                  have p263 : 0 ≤ (ji24 : Int) := odt_
                  have q263 : ji24 < (x5_3.length : Int) := odt_
                  obtain ⟨ad263, e263, hx263_0⟩ := Kd.at_int (Kd.R_reads' HO_5.out).2.2 ji24 p263 q263
                  obtain rfl : ad260 = ad263 := (by injection e263)
                  replace p263 := eq_true p263
                  replace q263 := eq_true q263
                  have p264 : 0 ≤ (ji28 : Int) := odt_
                  have q264 : ji28 < (x5_3.length : Int) := odt_
                  obtain ⟨ad264, e264, hx264_0⟩ := Kd.at_int (Kd.R_reads' HO_5.out).2.2 ji28 p264 q264
                  obtain rfl : ad260 = ad264 := (by injection e264)
                  replace p264 := eq_true p264
                  replace q264 := eq_true q264
                  refine start_ (n := 23) (S := fun w' => w'.cell? (ad260.add (ji24).toNat) = some (.int .i64 (rd x5_3 ji24)) ∧ w'.cell? (ad260.add (ji28).toNat) = some (.int .i64 (rd x5_3 ji28)) ∧ w'.cell? (ad260.add (ji24).toNat) = some (.int .i64 (rd x5_3 ji24)) ∧ w'.cell? (ad260.add (ji28).toNat) = some (.int .i64 (rd x5_3 ji28))) (ds := [20, 21]) #[false, false, false, false, false, false, false, false, false, false, false, false, false, false, false, false, false, false, false, false, false, false, false] (by kernel_rfl) rfl rfl ⟨hx260_0, hx261_0, hx263_0, hx264_0⟩ (fun hHeld => ?_); refine with_tabW spec_poOf.tab25 spec_poOf.bits25 (fun HT_ HW_ => ?_)
                  generalize wc.drew = w60 at HO_4 HO_5 HO_7 HB hx260_0 hx261_0 hx263_0 hx264_0 hHeld ⊢
                  refine pux_ 0 92 HT_ ?_
                  refine pux_ 1 93 HT_ ?_
                  refine pux_ 2 94 HT_ ?_
                  refine pux_ 3 95 HT_ ?_
                  refine pux_ 5 97 HT_ ?_
                  refine pux_ 6 98 HT_ ?_
                  refine pux_ 7 99 HT_ ?_
                  refine pux_ 10 102 HT_ ?_
                  refine pux_ 11 103 HT_ ?_
                  refine pux_ 12 104 HT_ ?_
                  refine pux_ 14 106 HT_ ?_
                  refine pux_ 15 107 HT_ ?_
                  refine pux_ 16 108 HT_ ?_
                  refine take_ (i := 4) (N := some 96) (v := ?_) (a' := ?_) #[true, true, true, true, true, true, true, true, false, false, true, true, true, false, true, true, true, false, false, false, false, false, false] rfl rfl (take_ofW HT_.out HW_.out (by kernel_rfl)) (fun _ _ _ h => h) (Or.inl ⟨by rfl, ?_⟩) hHeld ?_ ?_
                  rotate_left
                  ·rintro w' ⟨s0, s1, s2, s3⟩
                   go_simp
                   with_reducible rfl
                  rotate_left
                  ·exact ap_
                  refine take_ (i := 8) (N := some 100) (v := ?_) (a' := ?_) #[true, true, true, true, true, true, true, true, true, false, true, true, true, false, true, true, true, false, false, false, false, false, false] rfl rfl (take_ofW HT_.out HW_.out (by kernel_rfl)) (fun _ _ _ h => h) (Or.inl ⟨by rfl, ?_⟩) hHeld ?_ ?_
                  rotate_left
                  ·rintro w' ⟨s0, s1, s2, s3⟩
                   go_simp
                   with_reducible rfl
                  rotate_left
                  ·exact ap_
                  refine take_ (i := 13) (N := some 105) (v := ?_) (a' := ?_) #[true, true, true, true, true, true, true, true, true, false, true, true, true, true, true, true, true, false, false, false, false, false, false] rfl rfl (take_ofW HT_.out HW_.out (by kernel_rfl)) (fun _ _ _ h => h) (Or.inl ⟨by rfl, ?_⟩) hHeld ?_ ?_
                  rotate_left
                  ·rintro w' ⟨s0, s1, s2, s3⟩
                   go_simp
                   with_reducible rfl
                  rotate_left
                  ·exact ap_
                  refine take_ (i := 17) (N := some 109) (v := ?_) (a' := ?_) #[true, true, true, true, true, true, true, true, true, false, true, true, true, true, true, true, true, true, false, false, false, false, false] rfl rfl (take_ofW HT_.out HW_.out (by kernel_rfl)) (fun _ _ _ h => h) (Or.inl ⟨by rfl, ?_⟩) hHeld ?_ ?_
                  rotate_left
                  ·rintro w' ⟨s0, s1, s2, s3⟩
                   go_simp
                   with_reducible rfl
                  rotate_left
                  ·exact ap_
                  refine one_ (i := 9) (N := some 101) #[true, true, true, true, true, true, true, true, true, true, true, true, true, true, true, true, true, true, false, false, false, false, false] rfl rfl (one_of HT_.out (by kernel_rfl)) (by decide) (fun K hK => ?_)
                  refine goes_ Try.func82 (by kernel_rfl) rfl #[.int .i64 (rd x5_3 ji24), .int .i64 (rd x5_3 ji28)] (by rfl) rfl rfl (by (try simp only [List.map_toArray, List.map_cons, List.map_nil]); first | done | (simp only [hji24, hji28]; rfl) | rfl | (simp only [List.length_drop, List.length_take]; rfl)) ?_
                  with_reducible refine (spec_l1Least.calls (rd x5_3 ji24) (rd x5_3 ji28) t262 _ A44.out).mono ?_
                  rintro e w' ⟨rfl, ⟨nd, rfl⟩⟩
                  refine ⟨_, rfl, ?_⟩
                  refine hK.out _ _ ⟨hHeld.1, hHeld.2.1, hHeld.2.2.1, hHeld.2.2.2⟩ (fun hHeld => ?_)
                  clear hK K
                  refine nor_ 101 ?_
                  refine one_ (i := 18) (N := some 110) #[true, true, true, true, true, true, true, true, true, true, true, true, true, true, true, true, true, true, true, false, false, false, false] rfl rfl (one_of HT_.out (by kernel_rfl)) (by decide) (fun K hK => ?_)
                  refine goes_ Try.func83 (by kernel_rfl) rfl #[.int .i64 (rd x5_3 ji24), .int .i64 (rd x5_3 ji28)] (by rfl) rfl rfl (by (try simp only [List.map_toArray, List.map_cons, List.map_nil]); first | done | (simp only [hji24, hji28]; rfl) | rfl | (simp only [List.length_drop, List.length_take]; rfl)) ?_
                  with_reducible refine (spec_l1Most.calls (rd x5_3 ji24) (rd x5_3 ji28) t265 _ A45.out).mono ?_
                  rintro e w' ⟨rfl, ⟨nd, rfl⟩⟩
                  refine ⟨_, rfl, ?_⟩
                  refine hK.out _ _ ⟨hHeld.1, hHeld.2.1, hHeld.2.2.1, hHeld.2.2.2⟩ (fun hHeld => ?_)
                  clear hK K
                  refine nor_ 110 ?_
                  refine pux_ 19 111 HT_ ?_
                  refine last_ (i := 20) (N := some 112) #[true, true, true, true, true, true, true, true, true, true, true, true, true, true, true, true, true, true, true, true, true, false, false] rfl rfl (one_of HT_.out (by kernel_rfl)) (by decide) (fun K hK => ?_)
                  refine value_ (w1 := ?_) (v := ?_) (by rfl) rfl ?_ ?_
                  rotate_left 2
                  ·go_simp
                   constructor
                   ·rfl
                   ·rfl
                  refine hK.out _ _ ?_
                  clear hK K
                  refine nor_ 112 ?_
                  refine last_ (i := 21) (N := some 113) #[true, true, true, true, true, true, true, true, true, true, true, true, true, true, true, true, true, true, true, true, true, true, false] rfl rfl (one_of HT_.out (by kernel_rfl)) (by decide) (fun K hK => ?_)
                  refine Kd.R_append_step k52 (w0 := w) w.heap.size (by rfl) (.tmp 92) (.tmp 112) 41 52 (.agg #[(.int .i64 0), (.int .i64 0)]) 16 rfl Try.underlying41 info52 rfl (by decide) (by omega) u7 x7_3 (⟨t262, t265⟩ : S52) [.int .i64 t262, .int .i64 t265] (fun _ => True) (fun _ => False) rfl rfl ?aP (fun _ hk => hk.elim) ?aF ?aO ?aB ?aS ?aL ?_
                  (case aP => exact k52_mkM _ _ _ (⟨t262, t265⟩ : S52))
                  (case aB => exact blw_)
                  (case aF => exact (fun _ _ => trivial))
                  (case aO => exact (ra_ HO_7.out))
                  (case aS => exact (below_size blw_))
                  (case aL => have := LMc46.out; omega)
                  intro v267 w62 ho hb hg hat
                  rw [← Ny266.out] at ho
                  have n0_ := Aside0.mk (Kd.R_over' (ra_ HO_4.out) (Kd.R_typed (ra_ HO_7.out)) (by decide) hg)
                  have n1_ := Aside0.mk (Kd.R_over' (ra_ HO_5.out) (Kd.R_typed (ra_ HO_7.out)) (by decide) hg)
                  have n2_ := Aside0.mk (hb)
                  have n3_ := Aside0.mk (ho)
                  clear HO_4
                  clear HO_5
                  clear HB
                  clear HO_7
                  have HO_4 := n0_
                  have HO_5 := n1_
                  have HB := n2_
                  have HO268 := n3_
                  clear n0_ n1_ n2_ n3_
                  clear ho hb hg hat
                  refine hK.out _ _ ?_
                  clear hK K
                  refine nor_ 113 ?_
                  refine pux_ 22 7 HT_ ?_
                  refine done_ (done_of HT_.out (by kernel_rfl)) ?_
                  try go_wp2
                  have n0_ := Aside0.mk (Kd.R_drew HO_4.out)
                  have n1_ := Aside0.mk (Kd.R_drew HO_5.out)
                  have n2_ := Aside0.mk (Kd.R_drew HO268.out)
                  have n3_ := Aside0.mk (below_drew1 HB.out)
                  clear HO_4
                  clear HO_5
                  clear HO268
                  clear HB
                  have HO_4 := n0_
                  have HO_5 := n1_
                  have HO268 := n2_
                  have HB := n3_
                  clear n0_ n1_ n2_ n3_
                  have q64 : (x8_4 : Int) ≤ ((y257.length : Int) : Int) := odt_
                  obtain ⟨i064, hi064, _, hsz64, _⟩ := info_parts info3
                  have hroom64 : y257.length ≤ co16 := (Kd.R_reads' HO_4.out).2.1
                  have hC64 : Kd.C (Kd.int .i64) _ (some ⟨go27, 0, none⟩) y257.length y257 := (Kd.R_reads' HO_4.out).2.2
                  have hcut64 := cut_to (P := Try.prog) 33 3 .i64 Try.underlying33 hi064 (some ⟨go27, 0, none⟩) y257.length co16 x8_4 (odt_) q64 hroom64
                  have hr64 := Kd.C_take (m := (x8_4 : Int).toNat) hC64 (by omega)
                  have hy64 : y269.length = (x8_4 : Int).toNat := (by rw [Ny269.out, List.length_take]; omega)
                  rw [← Ny269.out] at hr64
                  rw [← hy64] at hcut64
                  have HR272 := Aside0.mk hr64
                  have HC272 := Aside0.mk (show y269.length ≤ co16 from by omega)
                  clear hr64 hC64 hroom64 hi064 hsz64
                  have KY64 := Aside0.mk hy64
                  clear hy64
                  have KL64 := Aside0.mk (show (x8_4 : Int).toNat ≤ y257.length from by omega)
                  replace q64 := eq_true q64
                  have q65 : ((ji50) : Int) ≤ ((y257.length : Int) : Int) := odt_
                  obtain ⟨i065, hi065, _, hsz65, _⟩ := info_parts info3
                  have hroom65 : y257.length ≤ co16 := (Kd.R_reads' HO_4.out).2.1
                  have hC65 : Kd.C (Kd.int .i64) _ (some ⟨go27, 0, none⟩) y257.length y257 := (Kd.R_reads' HO_4.out).2.2
                  have q065 : (0 : Int) ≤ ((ji50) : Int) := odt_
                  have hcut65 := cut_from (P := Try.prog) 33 3 .i64 Try.underlying33 hi065 1 hsz65 (some ⟨go27, 0, none⟩) y257.length co16 (ji50) q065 q65
                  have hr65 := Kd.C_drop (m := ((ji50) : Int).toNat) (c := co16) hC65 (by omega) hroom65
                  obtain ⟨A65, hA65⟩ : ∃ A1, A1 = (if co16 = ((ji50) : Int).toNat then (some ⟨go27, 0, none⟩) else ((some ⟨go27, 0, none⟩) : Option Addr).map (·.add (((ji50) : Int).toNat * 1))) := ⟨_, rfl⟩
                  obtain ⟨c65, hc65⟩ : ∃ c1, c1 = co16 - ((ji50) : Int).toNat := ⟨_, rfl⟩
                  have hy65 : y276.length = y257.length - ((ji50) : Int).toNat := (by rw [Ny276.out, List.length_drop] <;> omega)
                  rw [show (y257).drop ((ji50) : Int).toNat = y276 from Ny276.out.symm] at hr65
                  replace hr65 : Kd.C (Kd.int .i64) _ A65 y276.length y276 := (by rw [hA65]; exact hr65)
                  rw [← hy65, ← hA65, ← hc65] at hcut65
                  have HR279 := Aside0.mk hr65
                  have HC279 := Aside0.mk (show y276.length ≤ c65 from by rw [hy65, hc65]; exact Nat.sub_le_sub_right hroom65 _)
                  clear hr65 hC65 hroom65 hi065 hsz65 hc65
                  have KY65 := Aside0.mk hy65
                  have KA65 := Aside0.mk hA65
                  clear hy65 hA65
                  have KL65 := Aside0.mk (show ((ji50) : Int).toNat ≤ y257.length from by omega)
                  replace q65 := eq_true q65
                  refine start_ (n := 10) (S := fun w' => True) (ds := []) #[false, false, false, false, false, false, false, false, false, false] (by kernel_rfl) rfl rfl trivial (fun hHeld => ?_); refine with_tabW spec_poOf.tab26 spec_poOf.bits26 (fun HT_ HW_ => ?_)
                  generalize w62.drew = w63 at HO_4 HO_5 HO268 HB HR272 HR279 hHeld ⊢
                  refine pux_ 0 114 HT_ ?_
                  refine pux_ 1 115 HT_ ?_
                  refine pux_ 2 116 HT_ ?_
                  refine pux_ 4 118 HT_ ?_
                  refine pux_ 5 119 HT_ ?_
                  refine pux_ 6 120 HT_ ?_
                  refine pux_ 7 121 HT_ ?_
                  refine one_ (i := 3) (N := some 117) #[true, true, true, true, true, true, true, true, false, false] rfl rfl (one_of HT_.out (by kernel_rfl)) (by decide) (fun K hK => ?_)
                  refine goes_ Try.func81 (by kernel_rfl) rfl #[.slice (some ⟨go27, 0, none⟩) y269.length co16] (by rfl) rfl rfl amp_ ?_
                  with_reducible refine (spec_l1Own.calls _ _ y269 t273 _ ?side1 ?side2 A49.out).mono ?_
                  (case side1 => repeat (first | exact (by repeat (first | (with_reducible exact HR272.out) | (with_reducible refine Kd.C_alloc ?_ _) | (with_reducible refine Kd.C_drewN ?_ _) | (with_reducible refine Kd.C_drew ?_) | exact HR272.out)) | (with_reducible refine Kd.C_alloc ?_ _) | (with_reducible refine Kd.C_drewN ?_ _) | (with_reducible refine Kd.C_drew ?_)))
                  (case side2 => exact HC272.out)
                  rintro e w66 ⟨v274, rfl, ho0, hb⟩
                  refine ⟨_, rfl, ?_⟩
                  have n0_ := Aside0.mk (Kd.R_elder' (ra_ HO_4.out) (Kd.R_base ho0) hb)
                  have n1_ := Aside0.mk (Kd.R_elder' (ra_ HO_5.out) (Kd.R_base ho0) hb)
                  have n2_ := Aside0.mk (Kd.R_below (ra_ HO268.out) hb)
                  have n3_ := Aside0.mk (Kd.R_lower (Kd.R_new' (Kd.R_new' ho0 (Kd.R_lt (ra_ HO_4.out))) (Kd.R_lt (ra_ HO_5.out))) (below_size blw_))
                  have n4_ := Aside0.mk (Kd.C_below (by repeat (first | (with_reducible exact HR272.out) | (with_reducible refine Kd.C_alloc ?_ _) | (with_reducible refine Kd.C_drewN ?_ _) | (with_reducible refine Kd.C_drew ?_) | exact HR272.out)) hb)
                  have n5_ := Aside0.mk (Kd.C_below (by repeat (first | (with_reducible exact HR279.out) | (with_reducible refine Kd.C_alloc ?_ _) | (with_reducible refine Kd.C_drewN ?_ _) | (with_reducible refine Kd.C_drew ?_) | exact HR279.out)) hb)
                  have n6_ := Aside0.mk (below_step blw_ hb)
                  clear HO_4
                  clear HO_5
                  clear HO268
                  clear HR272
                  clear HR279
                  clear HB
                  have HO_4 := n0_
                  have HO_5 := n1_
                  have HO268 := n2_
                  have HO275 := n3_
                  have HR272 := n4_
                  have HR279 := n5_
                  have HB := n6_
                  clear n0_ n1_ n2_ n3_ n4_ n5_ n6_
                  (try clear hb)
                  (try clear hb2)
                  (try clear hk)
                  (try clear hi)
                  (try clear ho0)
                  refine hK.out _ _ trivial (fun hHeld => ?_)
                  clear hK K
                  refine nor_ 117 ?_
                  refine one_ (i := 8) (N := some 122) #[true, true, true, true, true, true, true, true, true, false] rfl rfl (one_of HT_.out (by kernel_rfl)) (by decide) (fun K hK => ?_)
                  refine Kd.R_append_rows_step (Kd.int .i64) (w0 := w) w.heap.size (by rfl) (.tmp 117) (.tmp 121) 33 3 (.int .i64 0) 8 rfl Try.underlying33 info3 rfl (by decide) (by omega) v274 t273 y276 _ _ _ (fun k_ => some k_ ≠ (.slice (some ⟨go27, 0, none⟩) y257.length co16 : Value).ownBlock ∧ some k_ ≠ (.slice (some ad260) x5_3.length co61 : Value).ownBlock) (fun _ => False) rfl rfl ?aO ?aR (fun _ _ h => h) (fun _ h => h.elim) ?aF ?aB ?aS ?aL ?_
                  (case aR => repeat (first | exact (by repeat (first | (with_reducible exact HR279.out) | (with_reducible refine Kd.C_alloc ?_ _) | (with_reducible refine Kd.C_drewN ?_ _) | (with_reducible refine Kd.C_drew ?_) | exact HR279.out)) | (with_reducible refine Kd.C_alloc ?_ _) | (with_reducible refine Kd.C_drewN ?_ _) | (with_reducible refine Kd.C_drew ?_)))
                  (case aB => exact blw_)
                  (case aF => exact (fun k_ hk => ⟨Kd.fresh' (Kd.R_lt (ra_ HO_4.out)) k_ hk, Kd.fresh' (Kd.R_lt (ra_ HO_5.out)) k_ hk⟩))
                  (case aO => exact (by (with_reducible repeat (first | apply Kd.R_alloc | apply Kd.R_drewN | apply Kd.R_drew)); exact Kd.R_mono HO275.out (fun _ hk => ⟨hk.1.2, hk.2⟩)))
                  (case aS => exact (below_size blw_))
                  (case aL => have := LMc53.out; omega)
                  intro v281 w67 ho hb hg hat
                  rw [← Ny280.out] at ho
                  have n0_ := Aside0.mk (Kd.R_after (ok := (fun k_ => some k_ ≠ (.slice (some ad260) x5_3.length co61 : Value).ownBlock)) (ra_ HO_4.out) hg hat)
                  have n1_ := Aside0.mk (Kd.R_after (ok := (fun k_ => some k_ ≠ (.slice (some ⟨go27, 0, none⟩) y257.length co16 : Value).ownBlock)) (ra_ HO_5.out) hg hat)
                  have n2_ := Aside0.mk (Kd.R_over' (ra_ HO268.out) (Kd.R_typed (ra_ HO275.out)) (by decide) hg)
                  have n3_ := Aside0.mk (hb)
                  have n4_ := Aside0.mk ((show Kd.C (Kd.int .i64) w67 (some ⟨go27, 0, none⟩) y269.length y269 from by rw [Ny269.out]; exact Kd.C_take (m := (x8_4 : Int).toNat) ((Kd.R_reads' (Kd.R_after (ok := (fun k_ => some k_ ≠ (.slice (some ad260) x5_3.length co61 : Value).ownBlock)) (ra_ HO_4.out) hg hat)).2.2) KL64.out))
                  have n5_ := Aside0.mk ((show Kd.C (Kd.int .i64) w67 A65 y276.length y276 from by rw [Ny276.out, KA65.out]; exact Kd.C_drop (m := ((ji50) : Int).toNat) (c := co16) ((Kd.R_reads' (Kd.R_after (ok := (fun k_ => some k_ ≠ (.slice (some ad260) x5_3.length co61 : Value).ownBlock)) (ra_ HO_4.out) hg hat)).2.2) KL65.out ((Kd.R_reads' (Kd.R_after (ok := (fun k_ => some k_ ≠ (.slice (some ad260) x5_3.length co61 : Value).ownBlock)) (ra_ HO_4.out) hg hat)).2.1)))
                  have n6_ := Aside0.mk (ho)
                  clear HO_4
                  clear HO_5
                  clear HO268
                  clear HB
                  clear HR272
                  clear HR279
                  clear HO275
                  have HO_4 := n0_
                  have HO_5 := n1_
                  have HO268 := n2_
                  have HB := n3_
                  have HR272 := n4_
                  have HR279 := n5_
                  have HO282 := n6_
                  clear n0_ n1_ n2_ n3_ n4_ n5_ n6_
                  clear ho hb hg hat
                  refine hK.out _ _ trivial (fun hHeld => ?_)
                  clear hK K
                  refine nor_ 122 ?_
                  refine pux_ 9 4 HT_ ?_
                  refine done_ (done_of HT_.out (by kernel_rfl)) ?_
                  try go_wp2
                  have n0_ := Aside0.mk (Kd.R_drew HO_4.out)
                  have n1_ := Aside0.mk (Kd.R_drew HO_5.out)
                  have n2_ := Aside0.mk (Kd.R_drew HO268.out)
                  have n3_ := Aside0.mk (Kd.R_drew HO282.out)
                  have n4_ := Aside0.mk (Kd.C_drew HR272.out)
                  have n5_ := Aside0.mk (Kd.C_drew HR279.out)
                  have n6_ := Aside0.mk (below_drew1 HB.out)
                  clear HO_4
                  clear HO_5
                  clear HO268
                  clear HO282
                  clear HR272
                  clear HR279
                  clear HB
                  have HO_4 := n0_
                  have HO_5 := n1_
                  have HO268 := n2_
                  have HO282 := n3_
                  have HR272 := n4_
                  have HR279 := n5_
                  have HB := n6_
                  clear n0_ n1_ n2_ n3_ n4_ n5_ n6_
                  have q69 : (x8_4 : Int) ≤ ((x5_3.length : Int) : Int) := odt_
                  obtain ⟨i069, hi069, _, hsz69, _⟩ := info_parts info3
                  have hroom69 : x5_3.length ≤ co61 := (Kd.R_reads' HO_5.out).2.1
                  have hC69 : Kd.C (Kd.int .i64) _ (some ad260) x5_3.length x5_3 := (Kd.R_reads' HO_5.out).2.2
                  have hcut69 := cut_to (P := Try.prog) 33 3 .i64 Try.underlying33 hi069 (some ad260) x5_3.length co61 x8_4 (odt_) q69 hroom69
                  have hr69 := Kd.C_take (m := (x8_4 : Int).toNat) hC69 (by omega)
                  have hy69 : y283.length = (x8_4 : Int).toNat := (by rw [Ny283.out, List.length_take]; omega)
                  rw [← Ny283.out] at hr69
                  rw [← hy69] at hcut69
                  have HR286 := Aside0.mk hr69
                  have HC286 := Aside0.mk (show y283.length ≤ co61 from by omega)
                  clear hr69 hC69 hroom69 hi069 hsz69
                  have KY69 := Aside0.mk hy69
                  clear hy69
                  have KL69 := Aside0.mk (show (x8_4 : Int).toNat ≤ x5_3.length from by omega)
                  replace q69 := eq_true q69
                  have q70 : ((ji50) : Int) ≤ ((x5_3.length : Int) : Int) := odt_
                  obtain ⟨i070, hi070, _, hsz70, _⟩ := info_parts info3
                  have hroom70 : x5_3.length ≤ co61 := (Kd.R_reads' HO_5.out).2.1
                  have hC70 : Kd.C (Kd.int .i64) _ (some ad260) x5_3.length x5_3 := (Kd.R_reads' HO_5.out).2.2
                  have q070 : (0 : Int) ≤ ((ji50) : Int) := odt_
                  have hcut70 := cut_from (P := Try.prog) 33 3 .i64 Try.underlying33 hi070 1 hsz70 (some ad260) x5_3.length co61 (ji50) q070 q70
                  have hr70 := Kd.C_drop (m := ((ji50) : Int).toNat) (c := co61) hC70 (by omega) hroom70
                  obtain ⟨A70, hA70⟩ : ∃ A1, A1 = (if co61 = ((ji50) : Int).toNat then (some ad260) else ((some ad260) : Option Addr).map (·.add (((ji50) : Int).toNat * 1))) := ⟨_, rfl⟩
                  obtain ⟨c70, hc70⟩ : ∃ c1, c1 = co61 - ((ji50) : Int).toNat := ⟨_, rfl⟩
                  have hy70 : y290.length = x5_3.length - ((ji50) : Int).toNat := (by rw [Ny290.out, List.length_drop] <;> omega)
                  rw [show (x5_3).drop ((ji50) : Int).toNat = y290 from Ny290.out.symm] at hr70
                  replace hr70 : Kd.C (Kd.int .i64) _ A70 y290.length y290 := (by rw [hA70]; exact hr70)
                  rw [← hy70, ← hA70, ← hc70] at hcut70
                  have HR293 := Aside0.mk hr70
                  have HC293 := Aside0.mk (show y290.length ≤ c70 from by rw [hy70, hc70]; exact Nat.sub_le_sub_right hroom70 _)
                  clear hr70 hC70 hroom70 hi070 hsz70 hc70
                  have KY70 := Aside0.mk hy70
                  have KA70 := Aside0.mk hA70
                  clear hy70 hA70
                  have KL70 := Aside0.mk (show ((ji50) : Int).toNat ≤ x5_3.length from by omega)
                  replace q70 := eq_true q70
                  refine start_ (n := 10) (S := fun w' => True) (ds := []) #[false, false, false, false, false, false, false, false, false, false] (by kernel_rfl) rfl rfl trivial (fun hHeld => ?_); refine with_tabW spec_poOf.tab27 spec_poOf.bits27 (fun HT_ HW_ => ?_)
                  generalize w67.drew = w68 at HO_4 HO_5 HO268 HO282 HR272 HR279 HB HR286 HR293 hHeld ⊢
                  refine pux_ 0 123 HT_ ?_
                  refine pux_ 1 124 HT_ ?_
                  refine pux_ 2 125 HT_ ?_
                  refine pux_ 4 127 HT_ ?_
                  refine pux_ 5 128 HT_ ?_
                  refine pux_ 6 129 HT_ ?_
                  refine pux_ 7 130 HT_ ?_
                  refine one_ (i := 3) (N := some 126) #[true, true, true, true, true, true, true, true, false, false] rfl rfl (one_of HT_.out (by kernel_rfl)) (by decide) (fun K hK => ?_)
                  refine goes_ Try.func81 (by kernel_rfl) rfl #[.slice (some ad260) y283.length co61] (by rfl) rfl rfl amp_ ?_
                  with_reducible refine (spec_l1Own.calls _ _ y283 t287 _ ?side1 ?side2 A56.out).mono ?_
                  (case side1 => repeat (first | exact (by repeat (first | (with_reducible exact HR286.out) | (with_reducible refine Kd.C_alloc ?_ _) | (with_reducible refine Kd.C_drewN ?_ _) | (with_reducible refine Kd.C_drew ?_) | exact HR286.out)) | (with_reducible refine Kd.C_alloc ?_ _) | (with_reducible refine Kd.C_drewN ?_ _) | (with_reducible refine Kd.C_drew ?_)))
                  (case side2 => exact HC286.out)
                  rintro e w71 ⟨v288, rfl, ho0, hb⟩
                  refine ⟨_, rfl, ?_⟩
                  have n0_ := Aside0.mk (Kd.R_elder' (ra_ HO_4.out) (Kd.R_base ho0) hb)
                  have n1_ := Aside0.mk (Kd.R_elder' (ra_ HO_5.out) (Kd.R_base ho0) hb)
                  have n2_ := Aside0.mk (Kd.R_below (ra_ HO268.out) hb)
                  have n3_ := Aside0.mk (Kd.R_elder' (ra_ HO282.out) (Kd.R_base ho0) hb)
                  have n4_ := Aside0.mk (Kd.R_lower (Kd.R_new' (Kd.R_new' (Kd.R_new' ho0 (Kd.R_lt (ra_ HO_4.out))) (Kd.R_lt (ra_ HO_5.out))) (Kd.R_lt (ra_ HO282.out))) (below_size blw_))
                  have n5_ := Aside0.mk (Kd.C_below (by repeat (first | (with_reducible exact HR272.out) | (with_reducible refine Kd.C_alloc ?_ _) | (with_reducible refine Kd.C_drewN ?_ _) | (with_reducible refine Kd.C_drew ?_) | exact HR272.out)) hb)
                  have n6_ := Aside0.mk (Kd.C_below (by repeat (first | (with_reducible exact HR279.out) | (with_reducible refine Kd.C_alloc ?_ _) | (with_reducible refine Kd.C_drewN ?_ _) | (with_reducible refine Kd.C_drew ?_) | exact HR279.out)) hb)
                  have n7_ := Aside0.mk (Kd.C_below (by repeat (first | (with_reducible exact HR286.out) | (with_reducible refine Kd.C_alloc ?_ _) | (with_reducible refine Kd.C_drewN ?_ _) | (with_reducible refine Kd.C_drew ?_) | exact HR286.out)) hb)
                  have n8_ := Aside0.mk (Kd.C_below (by repeat (first | (with_reducible exact HR293.out) | (with_reducible refine Kd.C_alloc ?_ _) | (with_reducible refine Kd.C_drewN ?_ _) | (with_reducible refine Kd.C_drew ?_) | exact HR293.out)) hb)
                  have n9_ := Aside0.mk (below_step blw_ hb)
                  clear HO_4
                  clear HO_5
                  clear HO268
                  clear HO282
                  clear HR272
                  clear HR279
                  clear HR286
                  clear HR293
                  clear HB
                  have HO_4 := n0_
                  have HO_5 := n1_
                  have HO268 := n2_
                  have HO282 := n3_
                  have HO289 := n4_
                  have HR272 := n5_
                  have HR279 := n6_
                  have HR286 := n7_
                  have HR293 := n8_
                  have HB := n9_
                  clear n0_ n1_ n2_ n3_ n4_ n5_ n6_ n7_ n8_ n9_
                  (try clear hb)
                  (try clear hb2)
                  (try clear hk)
                  (try clear hi)
                  (try clear ho0)
                  refine hK.out _ _ trivial (fun hHeld => ?_)
                  clear hK K
                  refine nor_ 126 ?_
                  refine one_ (i := 8) (N := some 131) #[true, true, true, true, true, true, true, true, true, false] rfl rfl (one_of HT_.out (by kernel_rfl)) (by decide) (fun K hK => ?_)
                  refine Kd.R_append_rows_step (Kd.int .i64) (w0 := w) w.heap.size (by rfl) (.tmp 126) (.tmp 130) 33 3 (.int .i64 0) 8 rfl Try.underlying33 info3 rfl (by decide) (by omega) v288 t287 y290 _ _ _ (fun k_ => some k_ ≠ (.slice (some ⟨go27, 0, none⟩) y257.length co16 : Value).ownBlock ∧ some k_ ≠ (.slice (some ad260) x5_3.length co61 : Value).ownBlock ∧ some k_ ≠ (v281 : Value).ownBlock) (fun _ => False) rfl rfl ?aO ?aR (fun _ _ h => h) (fun _ h => h.elim) ?aF ?aB ?aS ?aL ?_
                  (case aR => repeat (first | exact (by repeat (first | (with_reducible exact HR293.out) | (with_reducible refine Kd.C_alloc ?_ _) | (with_reducible refine Kd.C_drewN ?_ _) | (with_reducible refine Kd.C_drew ?_) | exact HR293.out)) | (with_reducible refine Kd.C_alloc ?_ _) | (with_reducible refine Kd.C_drewN ?_ _) | (with_reducible refine Kd.C_drew ?_)))
                  (case aB => exact blw_)
                  (case aF => exact (fun k_ hk => ⟨Kd.fresh' (Kd.R_lt (ra_ HO_4.out)) k_ hk, Kd.fresh' (Kd.R_lt (ra_ HO_5.out)) k_ hk, Kd.fresh' (Kd.R_lt (ra_ HO282.out)) k_ hk⟩))
                  (case aO => exact (by (with_reducible repeat (first | apply Kd.R_alloc | apply Kd.R_drewN | apply Kd.R_drew)); exact Kd.R_mono HO289.out (fun _ hk => ⟨hk.1.1.2, ⟨hk.1.2, hk.2⟩⟩)))
                  (case aS => exact (below_size blw_))
                  (case aL => have := LMc59.out; omega)
                  intro v295 w72 ho hb hg hat
                  rw [← Ny294.out] at ho
                  have n0_ := Aside0.mk (Kd.R_after (ok := (fun k_ => some k_ ≠ (.slice (some ad260) x5_3.length co61 : Value).ownBlock ∧ some k_ ≠ (v281 : Value).ownBlock)) (ra_ HO_4.out) hg hat)
                  have n1_ := Aside0.mk (Kd.R_after (ok := (fun k_ => some k_ ≠ (.slice (some ⟨go27, 0, none⟩) y257.length co16 : Value).ownBlock ∧ some k_ ≠ (v281 : Value).ownBlock)) (ra_ HO_5.out) hg hat)
                  have n2_ := Aside0.mk (Kd.R_over' (ra_ HO268.out) (Kd.R_typed (ra_ HO289.out)) (by decide) hg)
                  have n3_ := Aside0.mk (Kd.R_after (ok := (fun k_ => some k_ ≠ (.slice (some ⟨go27, 0, none⟩) y257.length co16 : Value).ownBlock ∧ some k_ ≠ (.slice (some ad260) x5_3.length co61 : Value).ownBlock)) (ra_ HO282.out) hg hat)
                  have n4_ := Aside0.mk (hb)
                  have n5_ := Aside0.mk ((show Kd.C (Kd.int .i64) w72 (some ⟨go27, 0, none⟩) y269.length y269 from by rw [Ny269.out]; exact Kd.C_take (m := (x8_4 : Int).toNat) ((Kd.R_reads' (Kd.R_after (ok := (fun k_ => some k_ ≠ (.slice (some ad260) x5_3.length co61 : Value).ownBlock ∧ some k_ ≠ (v281 : Value).ownBlock)) (ra_ HO_4.out) hg hat)).2.2) KL64.out))
                  have n6_ := Aside0.mk ((show Kd.C (Kd.int .i64) w72 A65 y276.length y276 from by rw [Ny276.out, KA65.out]; exact Kd.C_drop (m := ((ji50) : Int).toNat) (c := co16) ((Kd.R_reads' (Kd.R_after (ok := (fun k_ => some k_ ≠ (.slice (some ad260) x5_3.length co61 : Value).ownBlock ∧ some k_ ≠ (v281 : Value).ownBlock)) (ra_ HO_4.out) hg hat)).2.2) KL65.out ((Kd.R_reads' (Kd.R_after (ok := (fun k_ => some k_ ≠ (.slice (some ad260) x5_3.length co61 : Value).ownBlock ∧ some k_ ≠ (v281 : Value).ownBlock)) (ra_ HO_4.out) hg hat)).2.1)))
                  have n7_ := Aside0.mk ((show Kd.C (Kd.int .i64) w72 (some ad260) y283.length y283 from by rw [Ny283.out]; exact Kd.C_take (m := (x8_4 : Int).toNat) ((Kd.R_reads' (Kd.R_after (ok := (fun k_ => some k_ ≠ (.slice (some ⟨go27, 0, none⟩) y257.length co16 : Value).ownBlock ∧ some k_ ≠ (v281 : Value).ownBlock)) (ra_ HO_5.out) hg hat)).2.2) KL69.out))
                  have n8_ := Aside0.mk ((show Kd.C (Kd.int .i64) w72 A70 y290.length y290 from by rw [Ny290.out, KA70.out]; exact Kd.C_drop (m := ((ji50) : Int).toNat) (c := co61) ((Kd.R_reads' (Kd.R_after (ok := (fun k_ => some k_ ≠ (.slice (some ⟨go27, 0, none⟩) y257.length co16 : Value).ownBlock ∧ some k_ ≠ (v281 : Value).ownBlock)) (ra_ HO_5.out) hg hat)).2.2) KL70.out ((Kd.R_reads' (Kd.R_after (ok := (fun k_ => some k_ ≠ (.slice (some ⟨go27, 0, none⟩) y257.length co16 : Value).ownBlock ∧ some k_ ≠ (v281 : Value).ownBlock)) (ra_ HO_5.out) hg hat)).2.1)))
                  have n9_ := Aside0.mk (ho)
                  clear HO_4
                  clear HO_5
                  clear HO268
                  clear HO282
                  clear HB
                  clear HR272
                  clear HR279
                  clear HR286
                  clear HR293
                  clear HO289
                  have HO_4 := n0_
                  have HO_5 := n1_
                  have HO268 := n2_
                  have HO282 := n3_
                  have HB := n4_
                  have HR272 := n5_
                  have HR279 := n6_
                  have HR286 := n7_
                  have HR293 := n8_
                  have HO296 := n9_
                  clear n0_ n1_ n2_ n3_ n4_ n5_ n6_ n7_ n8_ n9_
                  clear ho hb hg hat
                  refine hK.out _ _ trivial (fun hHeld => ?_)
                  clear hK K
                  refine nor_ 131 ?_
                  refine pux_ 9 5 HT_ ?_
                  refine done_ (done_of HT_.out (by kernel_rfl)) ?_
                  try go_wp2
                  (try simp only [← hl4_31])
                  go_roundg kj31
                  case measure => have := HJ1.out; have := HK2.out; have := HK3.out; have := HK4.out; have := HJ31.out; omega
                  case rel => exact ⟨(y280), (y294), (y266), H', ⟨by have := HJ1.out; have := HK2.out; have := HK3.out; have := HK4.out; have := HJ31.out; omega⟩, ⟨by (try simp only [hl4_31]); (with_reducible repeat (first | apply Kd.R_alloc | apply Kd.R_drewN | apply Kd.R_drew)); exact Kd.R_mono HO282.out (fun _ hk => hk.2)⟩, ⟨by (try simp only [hl4_31]); (with_reducible repeat (first | apply Kd.R_alloc | apply Kd.R_drewN | apply Kd.R_drew)); exact Kd.R_mono HO296.out (fun _ hk => hk.2.2)⟩, ⟨by (try simp only [hl4_31]); (with_reducible repeat (first | apply Kd.R_alloc | apply Kd.R_drewN | apply Kd.R_drew)); exact HO268.out⟩, ⟨blw_⟩⟩
         ·rw [if_neg c15] at H
          have c15b0 : decide (3 < (x4_3.length : Int)) = false := decide_eq_false c15
          have c15b1 : decide (3 < x4_3.length) = false := decide_eq_false (by omega)
          clear c15
          replace H := Option.bind_eq_some_iff.mp H
          obtain ⟨t247, A730, H⟩ := H
          replace H : (if 0 < (x4_3.length : Int) then (if (rd x4_3 0) = 1 then (if 1 < (x4_3.length : Int) then (if (rd x4_3 1) = 1 then (if 2 < (x4_3.length : Int) then (some (t247, ((rd x4_3 2) == 1))) else (none)) else (some (t247, false))) else (none)) else (some (t247, false))) else (none)) = some (r1, r2) := H
          have A73 := Aside0.mk A730
          clear A730
          by_cases c74 : 0 < (x4_3.length : Int)
          case neg=>rw [if_neg c74] at H;exact absurd H (by simp)
          rw [if_pos c74] at H
          have c74b0 : decide (0 < (x4_3.length : Int)) = true := decide_eq_true c74
          have c74b1 : decide (0 < x4_3.length) = true := decide_eq_true (by omega)
          clear c74
          by_cases c75 : (rd x4_3 0) = 1
          ·rw [if_pos c75] at H
           have c75b0 : ((rd x4_3 0) == 1) = true := beq_iff_eq.mpr c75
           have c75b1 : ((rd x4_3 0) != 1) = false := bne_eq_false_iff_eq.mpr c75
           clear c75
           by_cases c76 : 1 < (x4_3.length : Int)
           case neg=>rw [if_neg c76] at H;exact absurd H (by simp)
           rw [if_pos c76] at H
           have c76b0 : decide (1 < (x4_3.length : Int)) = true := decide_eq_true c76
           have c76b1 : decide (1 < x4_3.length) = true := decide_eq_true (by omega)
           clear c76
           by_cases c77 : (rd x4_3 1) = 1
           ·rw [if_pos c77] at H
            have c77b0 : ((rd x4_3 1) == 1) = true := beq_iff_eq.mpr c77
            have c77b1 : ((rd x4_3 1) != 1) = false := bne_eq_false_iff_eq.mpr c77
            clear c77
            by_cases c78 : 2 < (x4_3.length : Int)
            case neg=>rw [if_neg c78] at H;exact absurd H (by simp)
            rw [if_pos c78] at H
            have c78b0 : decide (2 < (x4_3.length : Int)) = true := decide_eq_true c78
            have c78b1 : decide (2 < x4_3.length) = true := decide_eq_true (by omega)
            clear c78
            simp only [Option.some.injEq, Prod.mk.injEq] at H
            obtain ⟨rfl, rfl⟩ := H
            obtain ⟨Ao79, co79, eo79⟩ := Kd.R_slice HO_4.out
            subst eo79
            obtain ⟨Ao80, co80, eo80⟩ := Kd.R_slice HO_7.out
            subst eo80
            try go_wp2_with (first | ((with_reducible refine gate_callee (f := 84) rfl ?_); refine goesL_ (some 133) rfl rfl Try.func84 (by kernel_rfl) rfl #[.slice Ao80 x7_3.length co80] rfl amp_ ?_; (with_reducible refine (spec_poSorted.calls k3 _ _ x7_3 t247 _ ?side1 ?side2 A73.out).mono ?_); (case side1 => repeat (first | exact (Kd.R_reads' HO_7.out).2.2 | (with_reducible refine Kd.C_alloc ?_ _) | (with_reducible refine Kd.C_drewN ?_ _) | (with_reducible refine Kd.C_drew ?_))); (case side2 => exact (Kd.R_reads' HO_7.out).2.1); rintro e w81 ⟨v248, rfl, ho0, hb⟩; refine ⟨_, rfl, ?_⟩; have n0_ := Aside0.mk (Kd.R_below (ra_ HO_4.out) hb); have n1_ := Aside0.mk (Kd.R_below (ra_ HO_5.out) hb); have n2_ := Aside0.mk (Kd.R_elder' (ra_ HO_7.out) (Kd.R_base ho0) hb); have n3_ := Aside0.mk (Kd.R_lower (Kd.R_new' ho0 (Kd.R_lt (ra_ HO_7.out))) (below_size blw_)); have n4_ := Aside0.mk (below_step blw_ hb); clear HO_4; clear HO_5; clear HO_7; clear HB; have HO_4 := n0_; have HO_5 := n1_; have HO_7 := n2_; have HO249 := n3_; have HB := n4_; clear n0_ n1_ n2_ n3_ n4_; (try clear hb); (try clear hb2); (try clear hk); (try clear hi); (try clear ho0)))
            have n0_ := Aside0.mk (Kd.R_drew HO_4.out)
            have n1_ := Aside0.mk (Kd.R_drew HO_5.out)
            have n2_ := Aside0.mk (Kd.R_drew HO_7.out)
            have n3_ := Aside0.mk (Kd.R_drew HO249.out)
            have n4_ := Aside0.mk (below_drew1 HB.out)
            clear HO_4
            clear HO_5
            clear HO_7
            clear HO249
            clear HB
            have HO_4 := n0_
            have HO_5 := n1_
            have HO_7 := n2_
            have HO249 := n3_
            have HB := n4_
            clear n0_ n1_ n2_ n3_ n4_
            have p250 : 0 ≤ (0 : Int) := (by omega)
            have q250 : 0 < (x4_3.length : Int) := odt_
            obtain ⟨ad250, e250, hx250_0⟩ := Kd.at_int (Kd.R_reads' HO_4.out).2.2 0 p250 q250
            cases e250
            have qi250 : (0 < x4_3.length) = True := eq_true (by omega)
            (try rw [show ((0 : Int)).toNat = 0 from rfl] at hx250_0)
            (try rw [Addr.add_zero'] at hx250_0)
            replace p250 := eq_true p250
            replace q250 := eq_true q250
            have p251 : 0 ≤ (1 : Int) := (by omega)
            have q251 : 1 < (x4_3.length : Int) := odt_
            obtain ⟨ad251, e251, hx251_0⟩ := Kd.at_int (Kd.R_reads' HO_4.out).2.2 1 p251 q251
            obtain rfl : ad250 = ad251 := (by injection e251)
            (try simp only [show (1 : Int).toNat = 1 from rfl, Nat.reduceMul, Nat.reduceEqDiff, Go.Addr.add, ↓reduceIte] at hx251_0)
            have qi251 : (1 < x4_3.length) = True := eq_true (by omega)
            (try rw [show ((1 : Int)).toNat = 1 from rfl] at hx251_0)
            replace p251 := eq_true p251
            replace q251 := eq_true q251
            have p252 : 0 ≤ (2 : Int) := (by omega)
            have q252 : 2 < (x4_3.length : Int) := odt_
            obtain ⟨ad252, e252, hx252_0⟩ := Kd.at_int (Kd.R_reads' HO_4.out).2.2 2 p252 q252
            obtain rfl : ad250 = ad252 := (by injection e252)
            (try simp only [show (2 : Int).toNat = 2 from rfl, Nat.reduceMul, Nat.reduceEqDiff, Go.Addr.add, ↓reduceIte] at hx252_0)
            have qi252 : (2 < x4_3.length) = True := eq_true (by omega)
            (try rw [show ((2 : Int)).toNat = 2 from rfl] at hx252_0)
            replace p252 := eq_true p252
            replace q252 := eq_true q252
            refine start_ (n := 19) (S := fun w' => w'.cell? ad250 = some (.int .i64 (rd x4_3 0)) ∧ w'.cell? ⟨ad250.block, ad250.off + 1, none⟩ = some (.int .i64 (rd x4_3 1)) ∧ w'.cell? ⟨ad250.block, ad250.off + 2, none⟩ = some (.int .i64 (rd x4_3 2))) (ds := []) #[false, false, false, false, false, false, false, false, false, false, false, false, false, false, false, false, false, false, false] (by kernel_rfl) rfl rfl ⟨hx250_0, hx251_0, hx252_0⟩ (fun hHeld => ?_); refine with_tabW spec_poOf.tab29 spec_poOf.bits29 (fun HT_ HW_ => ?_)
            generalize w81.drew = w82 at HO_4 HO_5 HO_7 HO249 HB hx250_0 hx251_0 hx252_0 hHeld ⊢
            refine pux_ 0 134 HT_ ?_
            refine pux_ 1 135 HT_ ?_
            refine pux_ 2 136 HT_ ?_
            refine take_ (i := 3) (N := some 137) (v := ?_) (a' := ?_) #[true, true, true, true, false, false, false, false, false, false, false, false, false, false, false, false, false, false, false] rfl rfl (take_ofW HT_.out HW_.out (by kernel_rfl)) (fun _ _ _ h => h) (Or.inl ⟨by rfl, ?_⟩) hHeld ?_ ?_
            rotate_left
            ·rintro w' ⟨s0, s1, s2⟩
             go_simp
             with_reducible rfl
            rotate_left
            ·exact ap_
            refine pux_ 4 138 HT_ ?_
            refine pux_ 5 139 HT_ ?_
            refine pux_ 6 140 HT_ ?_
            refine pux_ 7 141 HT_ ?_
            refine take_ (i := 8) (N := some 142) (v := ?_) (a' := ?_) #[true, true, true, true, true, true, true, true, true, false, false, false, false, false, false, false, false, false, false] rfl rfl (take_ofW HT_.out HW_.out (by kernel_rfl)) (fun _ _ _ h => h) (Or.inl ⟨by rfl, ?_⟩) hHeld ?_ ?_
            rotate_left
            ·rintro w' ⟨s0, s1, s2⟩
             go_simp
             with_reducible rfl
            rotate_left
            ·exact ap_
            refine pux_ 9 143 HT_ ?_
            refine pux_ 10 144 HT_ ?_
            refine pux_ 11 145 HT_ ?_
            refine pux_ 12 146 HT_ ?_
            refine pux_ 13 147 HT_ ?_
            refine pux_ 17 2 HT_ ?_
            refine take_ (i := 14) (N := some 148) (v := ?_) (a' := ?_) #[true, true, true, true, true, true, true, true, true, true, true, true, true, true, true, false, false, true, false] rfl rfl (take_ofW HT_.out HW_.out (by kernel_rfl)) (fun _ _ _ h => h) (Or.inl ⟨by rfl, ?_⟩) hHeld ?_ ?_
            rotate_left
            ·rintro w' ⟨s0, s1, s2⟩
             go_simp
             with_reducible rfl
            rotate_left
            ·exact ap_
            refine pux_ 15 149 HT_ ?_
            refine pux_ 16 150 HT_ ?_
            refine pux_ 18 3 HT_ ?_
            refine done_ (done_of HT_.out (by kernel_rfl)) ?_
            try go_wp2
            go_ret2
            exact ⟨_, by first | rfl | (simp [errW_none, errW_some] <;> rfl) | (simp [*, errW_none, errW_some] <;> rfl), by (with_reducible repeat (first | apply Kd.R_alloc | apply Kd.R_drewN | apply Kd.R_drew)); exact Kd.R_mono HO249.out (fun _ hk => trivial), blw_⟩
           ·rw [if_neg c77] at H
            have c77b0 : ((rd x4_3 1) == 1) = false := beq_eq_false_iff_ne.mpr c77
            have c77b1 : ((rd x4_3 1) != 1) = true := bne_iff_ne.mpr c77
            simp only [Option.some.injEq, Prod.mk.injEq] at H
            obtain ⟨rfl, rfl⟩ := H
            obtain ⟨Ao83, co83, eo83⟩ := Kd.R_slice HO_4.out
            subst eo83
            obtain ⟨Ao84, co84, eo84⟩ := Kd.R_slice HO_7.out
            subst eo84
            try go_wp2_with (first | ((with_reducible refine gate_callee (f := 84) rfl ?_); refine goesL_ (some 133) rfl rfl Try.func84 (by kernel_rfl) rfl #[.slice Ao84 x7_3.length co84] rfl amp_ ?_; (with_reducible refine (spec_poSorted.calls k3 _ _ x7_3 t247 _ ?side1 ?side2 A73.out).mono ?_); (case side1 => repeat (first | exact (Kd.R_reads' HO_7.out).2.2 | (with_reducible refine Kd.C_alloc ?_ _) | (with_reducible refine Kd.C_drewN ?_ _) | (with_reducible refine Kd.C_drew ?_))); (case side2 => exact (Kd.R_reads' HO_7.out).2.1); rintro e w85 ⟨v248, rfl, ho0, hb⟩; refine ⟨_, rfl, ?_⟩; have n0_ := Aside0.mk (Kd.R_below (ra_ HO_4.out) hb); have n1_ := Aside0.mk (Kd.R_below (ra_ HO_5.out) hb); have n2_ := Aside0.mk (Kd.R_elder' (ra_ HO_7.out) (Kd.R_base ho0) hb); have n3_ := Aside0.mk (Kd.R_lower (Kd.R_new' ho0 (Kd.R_lt (ra_ HO_7.out))) (below_size blw_)); have n4_ := Aside0.mk (below_step blw_ hb); clear HO_4; clear HO_5; clear HO_7; clear HB; have HO_4 := n0_; have HO_5 := n1_; have HO_7 := n2_; have HO249 := n3_; have HB := n4_; clear n0_ n1_ n2_ n3_ n4_; (try clear hb); (try clear hb2); (try clear hk); (try clear hi); (try clear ho0)))
            have n0_ := Aside0.mk (Kd.R_drew HO_4.out)
            have n1_ := Aside0.mk (Kd.R_drew HO_5.out)
            have n2_ := Aside0.mk (Kd.R_drew HO_7.out)
            have n3_ := Aside0.mk (Kd.R_drew HO249.out)
            have n4_ := Aside0.mk (below_drew1 HB.out)
            clear HO_4
            clear HO_5
            clear HO_7
            clear HO249
            clear HB
            have HO_4 := n0_
            have HO_5 := n1_
            have HO_7 := n2_
            have HO249 := n3_
            have HB := n4_
            clear n0_ n1_ n2_ n3_ n4_
            have p250 : 0 ≤ (0 : Int) := (by omega)
            have q250 : 0 < (x4_3.length : Int) := odt_
            obtain ⟨ad250, e250, hx250_0⟩ := Kd.at_int (Kd.R_reads' HO_4.out).2.2 0 p250 q250
            cases e250
            have qi250 : (0 < x4_3.length) = True := eq_true (by omega)
            (try rw [show ((0 : Int)).toNat = 0 from rfl] at hx250_0)
            (try rw [Addr.add_zero'] at hx250_0)
            replace p250 := eq_true p250
            replace q250 := eq_true q250
            have p251 : 0 ≤ (1 : Int) := (by omega)
            have q251 : 1 < (x4_3.length : Int) := odt_
            obtain ⟨ad251, e251, hx251_0⟩ := Kd.at_int (Kd.R_reads' HO_4.out).2.2 1 p251 q251
            obtain rfl : ad250 = ad251 := (by injection e251)
            (try simp only [show (1 : Int).toNat = 1 from rfl, Nat.reduceMul, Nat.reduceEqDiff, Go.Addr.add, ↓reduceIte] at hx251_0)
            have qi251 : (1 < x4_3.length) = True := eq_true (by omega)
            (try rw [show ((1 : Int)).toNat = 1 from rfl] at hx251_0)
            replace p251 := eq_true p251
            replace q251 := eq_true q251
            refine start_ (n := 19) (S := fun w' => w'.cell? ad250 = some (.int .i64 (rd x4_3 0)) ∧ w'.cell? ⟨ad250.block, ad250.off + 1, none⟩ = some (.int .i64 (rd x4_3 1))) (ds := []) #[false, false, false, false, false, false, false, false, false, false, false, false, false, false, false, false, false, false, false] (by kernel_rfl) rfl rfl ⟨hx250_0, hx251_0⟩ (fun hHeld => ?_); refine with_tabW spec_poOf.tab29 spec_poOf.bits29 (fun HT_ HW_ => ?_)
            generalize w85.drew = w86 at HO_4 HO_5 HO_7 HO249 HB hx250_0 hx251_0 hHeld ⊢
            refine pux_ 0 134 HT_ ?_
            refine pux_ 1 135 HT_ ?_
            refine pux_ 2 136 HT_ ?_
            refine take_ (i := 3) (N := some 137) (v := ?_) (a' := ?_) #[true, true, true, true, false, false, false, false, false, false, false, false, false, false, false, false, false, false, false] rfl rfl (take_ofW HT_.out HW_.out (by kernel_rfl)) (fun _ _ _ h => h) (Or.inl ⟨by rfl, ?_⟩) hHeld ?_ ?_
            rotate_left
            ·rintro w' ⟨s0, s1⟩
             go_simp
             with_reducible rfl
            rotate_left
            ·exact ap_
            refine pux_ 4 138 HT_ ?_
            refine pux_ 5 139 HT_ ?_
            refine pux_ 6 140 HT_ ?_
            refine pux_ 7 141 HT_ ?_
            refine take_ (i := 8) (N := some 142) (v := ?_) (a' := ?_) #[true, true, true, true, true, true, true, true, true, false, false, false, false, false, false, false, false, false, false] rfl rfl (take_ofW HT_.out HW_.out (by kernel_rfl)) (fun _ _ _ h => h) (Or.inl ⟨by rfl, ?_⟩) hHeld ?_ ?_
            rotate_left
            ·rintro w' ⟨s0, s1⟩
             go_simp
             with_reducible rfl
            rotate_left
            ·exact ap_
            refine pux_ 9 143 HT_ ?_
            refine pux_ 10 144 HT_ ?_
            refine pux_ 11 145 HT_ ?_
            refine puy_ 12 146 HT_ ?_
            refine puy_ 13 147 HT_ ?_
            refine puy_ 14 148 HT_ ?_
            refine puy_ 15 149 HT_ ?_
            refine pux_ 16 150 HT_ ?_
            refine pux_ 17 2 HT_ ?_
            refine pux_ 18 3 HT_ ?_
            refine done_ (done_of HT_.out (by kernel_rfl)) ?_
            try go_wp2
            go_ret2
            exact ⟨_, by first | rfl | (simp [errW_none, errW_some] <;> rfl) | (simp [*, errW_none, errW_some] <;> rfl), by (with_reducible repeat (first | apply Kd.R_alloc | apply Kd.R_drewN | apply Kd.R_drew)); exact Kd.R_mono HO249.out (fun _ hk => trivial), blw_⟩
          ·rw [if_neg c75] at H
           have c75b0 : ((rd x4_3 0) == 1) = false := beq_eq_false_iff_ne.mpr c75
           have c75b1 : ((rd x4_3 0) != 1) = true := bne_iff_ne.mpr c75
           simp only [Option.some.injEq, Prod.mk.injEq] at H
           obtain ⟨rfl, rfl⟩ := H
           obtain ⟨Ao87, co87, eo87⟩ := Kd.R_slice HO_4.out
           subst eo87
           obtain ⟨Ao88, co88, eo88⟩ := Kd.R_slice HO_7.out
           subst eo88
           try go_wp2_with (first | ((with_reducible refine gate_callee (f := 84) rfl ?_); refine goesL_ (some 133) rfl rfl Try.func84 (by kernel_rfl) rfl #[.slice Ao88 x7_3.length co88] rfl amp_ ?_; (with_reducible refine (spec_poSorted.calls k3 _ _ x7_3 t247 _ ?side1 ?side2 A73.out).mono ?_); (case side1 => repeat (first | exact (Kd.R_reads' HO_7.out).2.2 | (with_reducible refine Kd.C_alloc ?_ _) | (with_reducible refine Kd.C_drewN ?_ _) | (with_reducible refine Kd.C_drew ?_))); (case side2 => exact (Kd.R_reads' HO_7.out).2.1); rintro e w89 ⟨v248, rfl, ho0, hb⟩; refine ⟨_, rfl, ?_⟩; have n0_ := Aside0.mk (Kd.R_below (ra_ HO_4.out) hb); have n1_ := Aside0.mk (Kd.R_below (ra_ HO_5.out) hb); have n2_ := Aside0.mk (Kd.R_elder' (ra_ HO_7.out) (Kd.R_base ho0) hb); have n3_ := Aside0.mk (Kd.R_lower (Kd.R_new' ho0 (Kd.R_lt (ra_ HO_7.out))) (below_size blw_)); have n4_ := Aside0.mk (below_step blw_ hb); clear HO_4; clear HO_5; clear HO_7; clear HB; have HO_4 := n0_; have HO_5 := n1_; have HO_7 := n2_; have HO249 := n3_; have HB := n4_; clear n0_ n1_ n2_ n3_ n4_; (try clear hb); (try clear hb2); (try clear hk); (try clear hi); (try clear ho0)))
           have n0_ := Aside0.mk (Kd.R_drew HO_4.out)
           have n1_ := Aside0.mk (Kd.R_drew HO_5.out)
           have n2_ := Aside0.mk (Kd.R_drew HO_7.out)
           have n3_ := Aside0.mk (Kd.R_drew HO249.out)
           have n4_ := Aside0.mk (below_drew1 HB.out)
           clear HO_4
           clear HO_5
           clear HO_7
           clear HO249
           clear HB
           have HO_4 := n0_
           have HO_5 := n1_
           have HO_7 := n2_
           have HO249 := n3_
           have HB := n4_
           clear n0_ n1_ n2_ n3_ n4_
           have p250 : 0 ≤ (0 : Int) := (by omega)
           have q250 : 0 < (x4_3.length : Int) := odt_
           obtain ⟨ad250, e250, hx250_0⟩ := Kd.at_int (Kd.R_reads' HO_4.out).2.2 0 p250 q250
           cases e250
           have qi250 : (0 < x4_3.length) = True := eq_true (by omega)
           (try rw [show ((0 : Int)).toNat = 0 from rfl] at hx250_0)
           (try rw [Addr.add_zero'] at hx250_0)
           replace p250 := eq_true p250
           replace q250 := eq_true q250
           refine start_ (n := 19) (S := fun w' => w'.cell? ad250 = some (.int .i64 (rd x4_3 0))) (ds := []) #[false, false, false, false, false, false, false, false, false, false, false, false, false, false, false, false, false, false, false] (by kernel_rfl) rfl rfl (hx250_0) (fun hHeld => ?_); refine with_tabW spec_poOf.tab29 spec_poOf.bits29 (fun HT_ HW_ => ?_)
           generalize w89.drew = w90 at HO_4 HO_5 HO_7 HO249 HB hx250_0 hHeld ⊢
           refine pux_ 0 134 HT_ ?_
           refine pux_ 1 135 HT_ ?_
           refine pux_ 2 136 HT_ ?_
           refine take_ (i := 3) (N := some 137) (v := ?_) (a' := ?_) #[true, true, true, true, false, false, false, false, false, false, false, false, false, false, false, false, false, false, false] rfl rfl (take_ofW HT_.out HW_.out (by kernel_rfl)) (fun _ _ _ h => h) (Or.inl ⟨by rfl, ?_⟩) hHeld ?_ ?_
           rotate_left
           ·intro w' s0
            go_simp
            with_reducible rfl
           rotate_left
           ·exact ap_
           refine pux_ 4 138 HT_ ?_
           refine pux_ 5 139 HT_ ?_
           refine puy_ 6 140 HT_ ?_
           refine puy_ 7 141 HT_ ?_
           refine puy_ 8 142 HT_ ?_
           refine puy_ 9 143 HT_ ?_
           refine pux_ 10 144 HT_ ?_
           refine pux_ 11 145 HT_ ?_
           refine puy_ 12 146 HT_ ?_
           refine puy_ 13 147 HT_ ?_
           refine puy_ 14 148 HT_ ?_
           refine puy_ 15 149 HT_ ?_
           refine pux_ 16 150 HT_ ?_
           refine pux_ 17 2 HT_ ?_
           refine pux_ 18 3 HT_ ?_
           refine done_ (done_of HT_.out (by kernel_rfl)) ?_
           try go_wp2
           go_ret2
           exact ⟨_, by first | rfl | (simp [errW_none, errW_some] <;> rfl) | (simp [*, errW_none, errW_some] <;> rfl), by (with_reducible repeat (first | apply Kd.R_alloc | apply Kd.R_drewN | apply Kd.R_drew)); exact Kd.R_mono HO249.out (fun _ hk => trivial), blw_⟩

end Go.Proofs.Ytgblginphicacaa.PFnExactRankOfQuiddity
