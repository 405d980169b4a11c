-- WRITTEN BY A PROGRAM OF THIS WORK (wip/tools/ppatch.py) for this claim.
import Derived.Test.YtkipgbakoljaeaaPFnExactFlipsToFanx0
import Derived.Test.YtkipgbakoljaeaaPFnExactFlipsToFanx7
import Derived.Test.YtkipgbakoljaeaaPFnExactFlipsToFanx9
import Derived.Test.YtkipgbakoljaeaaPFnExactFlipsToFanx13
namespace Go.Proofs.Ytkipgbakoljaeaa.PFnExactFlipsToFan
open Go.RowKit Go.Proofs.YtkipgbakoljaeaaW.PrintWords Go.Proofs.YtkipgbakoljaeaaW.PrintLast Go.Proofs.YtkipgbakoljaeaaW.PrintMore
attribute [local go_sem] max2_int min2_int max_two min_two max_three min_three max_four min_four   -- for this text's walks alone
set_option linter.unusedVariables false
set_option linter.unusedSimpArgs false

/-! ### impl_FlipsToFan: function 49 -/
mutual
def impl_FlipsToFan.j0 : Nat → Bool → Int → List (S36) → Int → Option ((List (S36)) × Bool)
 | 0, _, _, _, _ => none
 | k + 1, x20, x330000, x331000, x332000 => if x20 = true then (some (([] : List (S36)), false)) else (impl_FlipsToFan.l0 k (([] : List (S36))) x330000 x331000 x332000)
def impl_FlipsToFan.l0 : Nat → List (S36) → Int → List (S36) → Int → Option ((List (S36)) × Bool)
 | 0, _, _, _, _ => none
 | k + 1, x8, x330000, x331000, x332000 => (impl_Diagonal_89_s5.f k x331000 x330000 x331000 x332000).bind fun t337 => (if t337 < 0 then (some (x8, true)) else (if 0 ≤ t337 then (if t337 < (x331000.length : Int) then (if x8.length < 8796093022208 then ((impl_flipped.f k x330000 x331000 ((rd_T36 x331000 t337).f0) ((rd_T36 x331000 t337).f1)).bind fun t343 => (impl_FlipsToFan.l0 k (x8 ++ [(⟨(rd_T36 x331000 t337).f0, (rd_T36 x331000 t337).f1⟩ : S36)]) x330000 t343 x332000)) else (none)) else (none)) else (none)))
end
def impl_FlipsToFan.f (k : Nat) (a0 : Int) (l1 : List (S36)) (a2 : Int) : Option ((List (S36)) × Bool) := (impl_IsTriangulation.f k a0 l1).bind fun t332 => (if t332 = true then ((impl_within.f a2 0 (wrap64 (a0 - 1))).bind fun t333 => (impl_FlipsToFan.j0 k (!t333) a0 l1 a2)) else (impl_FlipsToFan.j0 k true a0 l1 a2))
theorem impl_FlipsToFan.mono_l : ∀ k, (∀ y0 y1 y2 y3, LeO (impl_FlipsToFan.j0 k y0 y1 y2 y3) (impl_FlipsToFan.j0 (k + 1) y0 y1 y2 y3)) ∧ (∀ y0 y1 y2 y3, LeO (impl_FlipsToFan.l0 k y0 y1 y2 y3) (impl_FlipsToFan.l0 (k + 1) y0 y1 y2 y3))
 | 0 => ⟨fun _ _ _ _ r h => by simp [impl_FlipsToFan.j0] at h, fun _ _ _ _ r h => by simp [impl_FlipsToFan.l0] at h⟩
 | k + 1 => by
  obtain ⟨ih0, ih1⟩ := impl_FlipsToFan.mono_l k
  refine ⟨?_, ?_⟩
  ·intro y0 y1 y2 y3
   unfold impl_FlipsToFan.j0
   repeat' first
   | (with_reducible exact ih0 _ _ _ _)
   | (with_reducible exact ih1 _ _ _ _)
   | (with_reducible exact impl_Diagonal_89_s5.mono _ _ _ _ _)
   | (with_reducible exact impl_IsTriangulation.mono _ _ _)
   | (with_reducible exact impl_flipped.mono _ _ _ _ _)
   | (with_reducible exact LeO.refl _)
   | (with_reducible exact LeO.none _)
   | (with_reducible refine LeO.ite ?_ ?_)
   | (with_reducible refine LeO.bind ?_ (fun _ => ?_))
   | exact ih0 _ _ _ _
   | exact ih1 _ _ _ _
   | exact impl_Diagonal_89_s5.mono _ _ _ _ _
   | exact impl_IsTriangulation.mono _ _ _
   | exact impl_flipped.mono _ _ _ _ _
   | exact LeO.none _
   | refine LeO.ite ?_ ?_
   | refine LeO.bind ?_ (fun _ => ?_)
  ·intro y0 y1 y2 y3
   unfold impl_FlipsToFan.l0
   repeat' first
   | (with_reducible exact ih0 _ _ _ _)
   | (with_reducible exact ih1 _ _ _ _)
   | (with_reducible exact impl_Diagonal_89_s5.mono _ _ _ _ _)
   | (with_reducible exact impl_IsTriangulation.mono _ _ _)
   | (with_reducible exact impl_flipped.mono _ _ _ _ _)
   | (with_reducible exact LeO.refl _)
   | (with_reducible exact LeO.none _)
   | (with_reducible refine LeO.ite ?_ ?_)
   | (with_reducible refine LeO.bind ?_ (fun _ => ?_))
   | exact ih0 _ _ _ _
   | exact ih1 _ _ _ _
   | exact impl_Diagonal_89_s5.mono _ _ _ _ _
   | exact impl_IsTriangulation.mono _ _ _
   | exact impl_flipped.mono _ _ _ _ _
   | exact LeO.none _
   | refine LeO.ite ?_ ?_
   | refine LeO.bind ?_ (fun _ => ?_)
theorem impl_FlipsToFan.mono : ∀ a0 a1 a2 k, LeO (impl_FlipsToFan.f k a0 a1 a2) (impl_FlipsToFan.f (k + 1) a0 a1 a2) := by
 intro a0 a1 a2 k
 obtain ⟨ih0, ih1⟩ := impl_FlipsToFan.mono_l k
 unfold impl_FlipsToFan.f
 repeat' first
   | (with_reducible exact ih0 _ _ _ _)
   | (with_reducible exact ih1 _ _ _ _)
   | (with_reducible exact impl_Diagonal_89_s5.mono _ _ _ _ _)
   | (with_reducible exact impl_IsTriangulation.mono _ _ _)
   | (with_reducible exact impl_flipped.mono _ _ _ _ _)
   | (with_reducible exact LeO.refl _)
   | (with_reducible exact LeO.none _)
   | (with_reducible refine LeO.ite ?_ ?_)
   | (with_reducible refine LeO.bind ?_ (fun _ => ?_))
   | exact ih0 _ _ _ _
   | exact ih1 _ _ _ _
   | exact impl_Diagonal_89_s5.mono _ _ _ _ _
   | exact impl_IsTriangulation.mono _ _ _
   | exact impl_flipped.mono _ _ _ _ _
   | exact LeO.none _
   | refine LeO.ite ?_ ?_
   | refine LeO.bind ?_ (fun _ => ?_)
def impl_FlipsToFan.T7 : Bool × List (List Nat × List Nat) := (true, [([], []), ([], []), ([], []), ([1, 2], [1, 2]), ([3], [3]), ([4], [4]), ([0, 5], [0, 5]), ([], []), ([], []), ([], []), ([], []), ([9, 10], [9, 10]), ([11], [11]), ([7, 8, 12, 6], [7, 8, 12]), ([6, 13, 0, 1, 2, 3, 4, 5, 6], [0, 6]), ([13, 14, 0, 1, 2, 3, 4, 5, 6, 7, 8, 9, 10, 11, 12, 13, 14], [13])])
def impl_FlipsToFan.B7 : List Nat := [0, 0, 0, 6, 14, 30, 63, 0, 0, 0, 0, 1536, 3584, 8191, 16383, 32767]
theorem impl_FlipsToFan.tab7 : rtab .any (opsOf Try.f49 7) = impl_FlipsToFan.T7 := by kernel_rfl
theorem impl_FlipsToFan.bits7 : waitsOk impl_FlipsToFan.T7.2 impl_FlipsToFan.B7 = true := by kernel_rfl
def apB (A : Option Addr) (l : List (S36)) : Nat → Prop := fun g => l ≠ [] → ∀ a, A = some a → g ≠ a.block
theorem fan_add (a : Addr) (n : Nat) : (a.add n).block = a.block := by
 unfold Addr.add
 split <;> rfl
theorem fan_blk {w : World} {A : Option Addr} {l : List (S36)} (h : Kd.C k36 w A l.length l) (hne : l ≠ []) (a : Addr) (ha : A = some a) : a.block < w.heap.size := by
 have hp := List.length_pos_iff.2 hne
 obtain ⟨ad, e, hc⟩ := h.2.2 hp
 rw [ha] at e
 injection e with e
 subst e
 obtain ⟨c, hs, hr, hcell⟩ := hc 0 _ (List.getElem?_eq_getElem hp)
 obtain rfl := k36_open hr
 have h1 := World.block_lt_of_cell? w _ (hcell 0 _ rfl)
 rwa [fan_add] at h1
theorem fan_move {w w1 : World} {A : Option Addr} {l : List (S36)} (h : Kd.C k36 w A l.length l) (hne : ∀ a, l ≠ [] → A = some a → a.block < w.heap.size → w1.heap[a.block]? = w.heap[a.block]?) : Kd.C k36 w1 A l.length l := by
 refine ⟨h.1, h.2.1, fun hn => ?_⟩
 obtain ⟨ad, e, hc⟩ := h.2.2 hn
 refine ⟨ad, e, fun j p hj => ?_⟩
 obtain ⟨c, hs, hr, hcell⟩ := hc j p hj
 have hr2 : k36.K w1 p c := by
  obtain rfl := k36_open hr
  exact k36_mk w1 p
 refine ⟨c, hs, hr2, fun i u hu => ?_⟩
 have h1 := hcell i u hu
 have h2 := World.block_lt_of_cell? w _ h1
 rw [fan_add] at h2
 have h3 : w1.cell? (ad.add (j * k36.sz + i)) = w.cell? (ad.add (j * k36.sz + i)) := World.cell?_of_block (by rw [fan_add]; exact hne ad (List.length_pos_iff.1 hn) e h2)
 exact h3.trans h1
theorem fan_grown {w w1 : World} {base : Nat} {A : Option Addr} {l xs : List (S36)} {v : Value} (h : Kd.C k36 w A l.length l) (hg : w.grownBy w1 v.ownBlock) (hR : Kd.R k36 36 w base (apB A l) v xs) : Kd.C k36 w1 A l.length l :=
 fan_move h fun a hn ha hl => hg.block _ hl (fun he => hR.1 _ he.symm hn a ha rfl)
theorem fan_cell {w w1 : World} {base : Nat} {ad : Addr} {l xs : List (S36)} {v u : Value} {q : Addr} (hn : l ≠ []) (hq : q.block = ad.block) (h : w.cell? q = some u) (hg : w.grownBy w1 v.ownBlock) (hR : Kd.R k36 36 w base (apB (some ad) l) v xs) : w1.cell? q = some u := by
 rw [World.cell?_of_block (hg.block _ (World.block_lt_of_cell? w _ h) (fun he => hR.1 _ he.symm hn ad rfl hq))]
 exact h
set_option maxHeartbeats 8000000 in
set_option maxRecDepth 100000 in
theorem impl_FlipsToFan.calls (k : Nat) (a0 : Int) (A1 : Option Addr) (c1 : Nat) (l1 : List (S36)) (a2 : Int) (r1 : List (S36)) (r2 : Bool) (w : World) (hr1 : Kd.C k36 w A1 l1.length l1) (hc1 : l1.length ≤ c1) (h : impl_FlipsToFan.f k a0 l1 a2 = some (r1, r2)) :
  Calls Try.prog 49 #[.int .i64 a0, .slice A1 l1.length c1, .int .i64 a2] w fun e w' => ∃ v0_ : Value, e = .returned (.tuple #[v0_, .bool r2]) ∧ Kd.R k36 36 w' w.heap.size (fun _ => True) v0_ r1 ∧ Below w.heap.size w w' := by
 have hu36 := Try.underlying36
 have HR1 := Aside0.mk hr1
 have HC1 := Aside0.mk hc1
 clear hr1 hc1
 have HB := Aside0.mk (Below.refl w.heap.size w)
 have H : ((impl_IsTriangulation.f k a0 l1).bind fun t332 => (if t332 = true then ((impl_within.f a2 0 (wrap64 (a0 - 1))).bind fun t333 => (impl_FlipsToFan.j0 k (!t333) a0 l1 a2)) else (impl_FlipsToFan.j0 k true a0 l1 a2))) = some (r1, r2) := h
 clear h
 have HC4 := Aside0.mk H
 clear H
 go_enter Try.func49, Try.ntmps49
 go_upto_region 1 with (first | ((with_reducible refine gate_dst (N := 3) rfl ?_); refine box_event ?hg (N := 3) ?hd (cs := #[.int .i64 a0]) (t := 3) ?hr ?_; (case hd => rfl); (case hg => rfl); (case hr => first | (go_simp; done) | (go_simp; rfl)); intro gb329 hg w5 hbox hb; have n0_ := Aside0.mk (below_step blw_ hb); have n1_ := Aside0.mk (hbox); have n2_ := Aside0.mk ((by rw [hg]; exact (below_size blw_) : w.heap.size ≤ gb329)); have n3_ := Aside0.mk ((by rw [hg]; exact (below_size blw_) : w.heap.size ≤ gb329)); clear HB; have HB := n0_; have BK329 := n1_; have GW329 := n2_; have GE329 := n3_; clear n0_ n1_ n2_ n3_; clear hb hbox hg) | ((with_reducible refine gate_dst (N := 4) rfl ?_); refine box_event ?hg (N := 4) ?hd (cs := #[.slice A1 l1.length c1]) (t := 22) ?hr ?_; (case hd => rfl); (case hg => rfl); (case hr => first | (go_simp; done) | (go_simp; rfl)); intro gb330 hg w6 hbox hb; have n0_ := Aside0.mk (blk_below (g := gb329) (o := .cells #[.int .i64 a0] 3 (0, 0)) (bk_ BK329.out) hb); have n1_ := Aside0.mk (below_step (by repeat (first | (with_reducible first | exact HB.out | apply below_alloc | apply pw_below_drewN | apply below_drew1 | refine below_set ?_ GE329.out) | exact HB.out)) hb); have n2_ := Aside0.mk (hbox); have n3_ := Aside0.mk ((by rw [hg]; exact (below_size (by repeat (first | (with_reducible first | exact HB.out | apply below_alloc | apply pw_below_drewN | apply below_drew1 | refine below_set ?_ GE329.out) | exact HB.out))) : w.heap.size ≤ gb330)); have n4_ := Aside0.mk ((by rw [hg]; exact (below_size (by repeat (first | (with_reducible first | exact HB.out | apply below_alloc | apply pw_below_drewN | apply below_drew1 | refine below_set ?_ GE329.out) | exact HB.out))) : w.heap.size ≤ gb330)); have n5_ := Aside0.mk ((by rw [hg]; exact Nat.ne_of_lt (blk_lt (g := gb329) (o := .cells #[.int .i64 a0] 3 (0, 0)) (bk_ BK329.out)) : gb329 ≠ gb330)); have n6_ := Aside0.mk ((by rw [hg]; exact Nat.ne_of_gt (blk_lt (g := gb329) (o := .cells #[.int .i64 a0] 3 (0, 0)) (bk_ BK329.out)) : gb330 ≠ gb329)); clear BK329; clear HB; have BK329 := n0_; have HB := n1_; have BK330 := n2_; have GW330 := n3_; have GE330 := n4_; have NB329_330 := n5_; have NB330_329 := n6_; clear n0_ n1_ n2_ n3_ n4_ n5_ n6_; clear hb hbox hg) | ((with_reducible refine gate_dst (N := 5) rfl ?_); refine box_event ?hg (N := 5) ?hd (cs := #[.int .i64 a2]) (t := 3) ?hr ?_; (case hd => rfl); (case hg => rfl); (case hr => first | (go_simp; done) | (go_simp; rfl)); intro gb331 hg w7 hbox hb; have n0_ := Aside0.mk (blk_below (g := gb329) (o := .cells #[.int .i64 a0] 3 (0, 0)) (bk_ BK329.out) hb); have n1_ := Aside0.mk (blk_below (g := gb330) (o := .cells #[.slice A1 l1.length c1] 22 (0, 0)) (bk_ BK330.out) hb); have n2_ := Aside0.mk (below_step (by repeat (first | (with_reducible first | exact HB.out | apply below_alloc | apply pw_below_drewN | apply below_drew1 | refine below_set ?_ GE329.out | refine below_set ?_ GE330.out) | exact HB.out)) hb); have n3_ := Aside0.mk (hbox); have n4_ := Aside0.mk ((by rw [hg]; exact (below_size (by repeat (first | (with_reducible first | exact HB.out | apply below_alloc | apply pw_below_drewN | apply below_drew1 | refine below_set ?_ GE329.out | refine below_set ?_ GE330.out) | exact HB.out))) : w.heap.size ≤ gb331)); have n5_ := Aside0.mk ((by rw [hg]; exact (below_size (by repeat (first | (with_reducible first | exact HB.out | apply below_alloc | apply pw_below_drewN | apply below_drew1 | refine below_set ?_ GE329.out | refine below_set ?_ GE330.out) | exact HB.out))) : w.heap.size ≤ gb331)); have n6_ := Aside0.mk ((by rw [hg]; exact Nat.ne_of_lt (blk_lt (g := gb329) (o := .cells #[.int .i64 a0] 3 (0, 0)) (bk_ BK329.out)) : gb329 ≠ gb331)); have n7_ := Aside0.mk ((by rw [hg]; exact Nat.ne_of_gt (blk_lt (g := gb329) (o := .cells #[.int .i64 a0] 3 (0, 0)) (bk_ BK329.out)) : gb331 ≠ gb329)); have n8_ := Aside0.mk ((by rw [hg]; exact Nat.ne_of_lt (blk_lt (g := gb330) (o := .cells #[.slice A1 l1.length c1] 22 (0, 0)) (bk_ BK330.out)) : gb330 ≠ gb331)); have n9_ := Aside0.mk ((by rw [hg]; exact Nat.ne_of_gt (blk_lt (g := gb330) (o := .cells #[.slice A1 l1.length c1] 22 (0, 0)) (bk_ BK330.out)) : gb331 ≠ gb330)); clear BK329; clear BK330; clear HB; have BK329 := n0_; have BK330 := n1_; have HB := n2_; have BK331 := n3_; have GW331 := n4_; have GE331 := n5_; have NB329_331 := n6_; have NB331_329 := n7_; have NB330_331 := n8_; have NB331_330 := n9_; clear n0_ n1_ n2_ n3_ n4_ n5_ n6_ n7_ n8_ n9_; clear hb hbox hg))
 (try simp only [Act.put, List.setIfInBounds_toArray, List.set_cons_zero, List.set_cons_succ])
 go_cut [20] (fun v20 wc => ∃ (kq : Nat) (x20_3 : Bool), v20 = .bool x20_3 ∧ Aside0 (impl_FlipsToFan.j0 kq x20_3 a0 l1 a2 = some (r1, r2)) ∧ Aside0 (kq ≤ k) ∧ Aside0 (wc.heap[gb329]? = some (.cells #[.int .i64 a0] 3 (0, 0))) ∧ Aside0 (wc.heap[gb330]? = some (.cells #[(.slice A1 l1.length c1)] 22 (0, 0))) ∧ Aside0 (wc.heap[gb331]? = some (.cells #[.int .i64 a2] 3 (0, 0))) ∧ Aside0 (Below w.heap.size w wc))
 case first =>
  have H := HC4.out
  clear HC4
  replace H := Option.bind_eq_some_iff.mp H
  obtain ⟨t332, A80, H⟩ := H
  replace H : (if t332 = true then ((impl_within.f a2 0 (wrap64 (a0 - 1))).bind fun t333 => (impl_FlipsToFan.j0 k (!t333) a0 l1 a2)) else (impl_FlipsToFan.j0 k true a0 l1 a2)) = some (r1, r2) := H
  have A8 := Aside0.mk A80
  clear A80
  by_cases c9 : t332 = true
  ·subst c9
   have H1 : ((impl_within.f a2 0 (wrap64 (a0 - 1))).bind fun t333 => (impl_FlipsToFan.j0 k (!t333) a0 l1 a2)) = some (r1, r2) := by rw [if_pos rfl] at H; exact H
   clear H
   have H := H1
   clear H1
   replace H := Option.bind_eq_some_iff.mp H
   obtain ⟨t333, A100, H⟩ := H
   replace H : (impl_FlipsToFan.j0 k (!t333) a0 l1 a2) = some (r1, r2) := H
   have A10 := Aside0.mk A100
   clear A100
   have H' := Aside0.mk H
   clear H
   have hnb11 := NB329_330.out
   have hnc11 := NB330_329.out
   have hnb12 := NB329_331.out
   have hnc12 := NB331_329.out
   have hcz13_0 : w7.cell? ⟨gb329, 0, none⟩ = some (.int .i64 a0) := (blk_cell BK329.out 0).trans rfl
   have hfz13_0 := blk_frozen BK329.out 0
   have hnb14 := NB330_331.out
   have hnc14 := NB331_330.out
   have hcz15_0 : w7.cell? ⟨gb330, 0, none⟩ = some (.slice A1 l1.length c1) := (blk_cell BK330.out 0).trans rfl
   have hfz15_0 := blk_frozen BK330.out 0
   go_wp2_with (first | ((with_reducible refine gate_callee (f := 62) rfl ?_); refine goesL_ (some 12) rfl rfl Try.func62 (by kernel_rfl) rfl #[.int .i64 a0, .slice A1 l1.length c1] rfl amp_ ?_; (with_reducible refine (impl_IsTriangulation.calls k a0 _ _ l1 true _ ?side1 ?side2 A8.out).mono ?_); (case side1 => repeat (first | exact (Kd.C_below HR1.out HB.out) | (with_reducible refine Kd.C_alloc ?_ _) | (with_reducible refine Kd.C_drewN ?_ _) | (with_reducible refine Kd.C_drew ?_))); (case side2 => exact HC1.out); rintro e w16 ⟨rfl, hb⟩; refine ⟨_, rfl, ?_⟩; have n0_ := Aside0.mk (blk_below (g := gb329) (o := .cells #[.int .i64 a0] 3 (0, 0)) (bk_ BK329.out) hb); have n1_ := Aside0.mk (blk_below (g := gb330) (o := .cells #[.slice A1 l1.length c1] 22 (0, 0)) (bk_ BK330.out) hb); have n2_ := Aside0.mk (blk_below (g := gb331) (o := .cells #[.int .i64 a2] 3 (0, 0)) (bk_ BK331.out) hb); have n3_ := Aside0.mk (below_step (by repeat (first | (with_reducible first | exact HB.out | apply below_alloc | apply pw_below_drewN | apply below_drew1 | refine below_set ?_ GE329.out | refine below_set ?_ GE330.out | refine below_set ?_ GE331.out) | exact HB.out)) hb); clear BK329; clear BK330; clear BK331; clear HB; have BK329 := n0_; have BK330 := n1_; have BK331 := n2_; have HB := n3_; clear n0_ n1_ n2_ n3_; (try clear hb); (try clear hb2); (try clear hk); (try clear hi); have hcz17_0 : w16.cell? ⟨gb331, 0, none⟩ = some (.int .i64 a2) := (blk_cell BK331.out 0).trans rfl; have hfz17_0 := blk_frozen BK331.out 0; have hcz18_0 : w16.cell? ⟨gb329, 0, none⟩ = some (.int .i64 a0) := (blk_cell BK329.out 0).trans rfl; have hfz18_0 := blk_frozen BK329.out 0) | (go_at_call 57; (with_reducible refine (impl_within.calls a2 0 (wrap64 (a0 - 1)) t333 _ A10.out).mono ?_); rintro e w' ⟨rfl, ⟨nd, rfl⟩⟩))
   go_meet
   case rel => exact ⟨_, (!t333), (by first | rfl | (simp; done) | (simp [*]; done)), H', ⟨by first | omega | exact Nat.le_refl _⟩, ⟨bk_ BK329.out⟩, ⟨bk_ BK330.out⟩, ⟨bk_ BK331.out⟩, ⟨by repeat (first | (with_reducible first | exact HB.out | apply below_alloc | apply pw_below_drewN | apply below_drew1 | refine below_set ?_ GE329.out | refine below_set ?_ GE330.out | refine below_set ?_ GE331.out) | exact HB.out)⟩⟩
  ·replace c9 := Bool.eq_false_iff.mpr c9
   subst c9
   have H1 : (impl_FlipsToFan.j0 k true a0 l1 a2) = some (r1, r2) := by rw [if_neg (show ¬ (false = true) by decide)] at H; exact H
   clear H
   have H := H1
   clear H1
   have H' := Aside0.mk H
   clear H
   have hnb19 := NB329_330.out
   have hnc19 := NB330_329.out
   have hnb20 := NB329_331.out
   have hnc20 := NB331_329.out
   have hcz21_0 : w7.cell? ⟨gb329, 0, none⟩ = some (.int .i64 a0) := (blk_cell BK329.out 0).trans rfl
   have hfz21_0 := blk_frozen BK329.out 0
   have hnb22 := NB330_331.out
   have hnc22 := NB331_330.out
   have hcz23_0 : w7.cell? ⟨gb330, 0, none⟩ = some (.slice A1 l1.length c1) := (blk_cell BK330.out 0).trans rfl
   have hfz23_0 := blk_frozen BK330.out 0
   go_wp2_with (first | ((with_reducible refine gate_callee (f := 62) rfl ?_); refine goesL_ (some 12) rfl rfl Try.func62 (by kernel_rfl) rfl #[.int .i64 a0, .slice A1 l1.length c1] rfl amp_ ?_; (with_reducible refine (impl_IsTriangulation.calls k a0 _ _ l1 false _ ?side1 ?side2 A8.out).mono ?_); (case side1 => repeat (first | exact (Kd.C_below HR1.out HB.out) | (with_reducible refine Kd.C_alloc ?_ _) | (with_reducible refine Kd.C_drewN ?_ _) | (with_reducible refine Kd.C_drew ?_))); (case side2 => exact HC1.out); rintro e w24 ⟨rfl, hb⟩; refine ⟨_, rfl, ?_⟩; have n0_ := Aside0.mk (blk_below (g := gb329) (o := .cells #[.int .i64 a0] 3 (0, 0)) (bk_ BK329.out) hb); have n1_ := Aside0.mk (blk_below (g := gb330) (o := .cells #[.slice A1 l1.length c1] 22 (0, 0)) (bk_ BK330.out) hb); have n2_ := Aside0.mk (blk_below (g := gb331) (o := .cells #[.int .i64 a2] 3 (0, 0)) (bk_ BK331.out) hb); have n3_ := Aside0.mk (below_step (by repeat (first | (with_reducible first | exact HB.out | apply below_alloc | apply pw_below_drewN | apply below_drew1 | refine below_set ?_ GE329.out | refine below_set ?_ GE330.out | refine below_set ?_ GE331.out) | exact HB.out)) hb); clear BK329; clear BK330; clear BK331; clear HB; have BK329 := n0_; have BK330 := n1_; have BK331 := n2_; have HB := n3_; clear n0_ n1_ n2_ n3_; (try clear hb); (try clear hb2); (try clear hk); (try clear hi)))
   go_meet
   case rel => exact ⟨_, (true), (by first | rfl | (simp; done) | (simp [*]; done)), H', ⟨by first | omega | exact Nat.le_refl _⟩, ⟨bk_ BK329.out⟩, ⟨bk_ BK330.out⟩, ⟨bk_ BK331.out⟩, ⟨by repeat (first | (with_reducible first | exact HB.out | apply below_alloc | apply pw_below_drewN | apply below_drew1 | refine below_set ?_ GE329.out | refine below_set ?_ GE330.out | refine below_set ?_ GE331.out) | exact HB.out)⟩⟩
 case rest =>
  clear HC4
  try clear c1
  try clear c2
  try clear p2
  try clear c4
  try clear c6
  try clear p6
  try clear c9
  try clear c11
  try clear c12
  try clear c14
  try clear c19
  try clear c20
  try clear c22
  try clear hcz13_0
  try clear hcz15_0
  try clear hcz17_0
  try clear hcz18_0
  try clear hcz21_0
  try clear hcz23_0
  try clear hfz13_0
  try clear hfz15_0
  try clear hfz17_0
  try clear hfz18_0
  try clear hfz21_0
  try clear hfz23_0
  obtain ⟨kq, x20_3, rfl, HA, HJ3, BK329, BK330, BK331, HB⟩ := hcut
  cases kq with
  | zero => exact absurd HA.out (by simp [impl_FlipsToFan.j0])
  | succ kj3 =>
   have H := HA.out
   clear HA
   simp only [impl_FlipsToFan.j0] at H
   by_cases c25 : x20_3 = true
   ·subst c25
    have H1 : (some (([] : List (S36)), false)) = some (r1, r2) := by rw [if_pos rfl] at H; exact H
    clear H
    have H := H1
    clear H1
    simp only [Option.some.injEq, Prod.mk.injEq] at H
    obtain ⟨rfl, rfl⟩ := H
    go_wp2
    go_ret2
    exact ⟨_, by first | rfl | (simp [errW_none, errW_some] <;> rfl) | (simp [*, errW_none, errW_some] <;> rfl), by first | exact Kd.R_nil _ _ _ _ _ | exact Kd.N_nil _ _ _ _ _ | exact Kd.V_nil _ _ _ _ _ | exact Kd.Q_nil _ _ _ _ _ | exact Kd.S_nil _ _ _ _ _, by repeat (first | (with_reducible first | exact HB.out | apply below_alloc | apply pw_below_drewN | apply below_drew1 | refine below_set ?_ GE329.out | refine below_set ?_ GE330.out | refine below_set ?_ GE331.out) | exact HB.out)⟩
   ·replace c25 := Bool.eq_false_iff.mpr c25
    subst c25
    have H1 : (impl_FlipsToFan.l0 kj3 (([] : List (S36))) a0 l1 a2) = some (r1, r2) := by rw [if_neg (show ¬ (false = true) by decide)] at H; exact H
    clear H
    have H := H1
    clear H1
    obtain ⟨y334, hy334⟩ : ∃ y_ : List (S36), y_ = (([] : List (S36))) := ⟨_, rfl⟩
    replace H : (impl_FlipsToFan.l0 kj3 y334 a0 l1 a2) = some (r1, r2) := by first | (rw [hy334]; with_reducible exact H) | (have H2_ := (Option.bind_some _ _).symm.trans H; rw [hy334]; with_reducible exact H2_) | (have H2_ := (Option.bind_some _ _).symm.trans H; with_reducible exact H2_) | with_reducible exact H | (rw [hy334]; exact H) | exact H
    have Ny334 := Aside0.mk hy334
    clear hy334
    have H' := Aside0.mk H
    clear H
    go_wp2_with (first | ((with_reducible refine gate_dst (N := 21) rfl ?_); refine Kd.R_lit k36 _ 36 ?hg (N := 21) ?hd (xs := ([] : List (S36))) (inner := []) (ok := fun _ => True) (okp := fun _ => True) ?hr ?hp (fun _ hk => hk) trivial (Below.refl _ _) (Nat.le_refl _) (by simp) ?_; (case hd => rfl); (case hg => rfl); (case hr => first | (go_simp; done) | (go_simp; rfl)); (case hp => exact (Reps.none _ _)); intro v335 w26 ho27 hb hg_ hnew_; clear hg_ hnew_; (first | rw [← Ny334.out] at ho27 | (simp only [Int.reduceToNat] at ho27; rw [← Ny334.out] at ho27)); have n0_ := Aside0.mk (Kd.R_lower ho27 (below_size (by repeat (first | (with_reducible first | exact HB.out | apply below_alloc | apply pw_below_drewN | apply below_drew1 | refine below_set ?_ GE329.out | refine below_set ?_ GE330.out | refine below_set ?_ GE331.out) | exact HB.out)))); have n1_ := Aside0.mk (blk_below (g := gb329) (o := .cells #[.int .i64 a0] 3 (0, 0)) (bk_ BK329.out) hb); have n2_ := Aside0.mk (blk_below (g := gb330) (o := .cells #[.slice A1 l1.length c1] 22 (0, 0)) (bk_ BK330.out) hb); have n3_ := Aside0.mk (blk_below (g := gb331) (o := .cells #[.int .i64 a2] 3 (0, 0)) (bk_ BK331.out) hb); have n4_ := Aside0.mk (below_step (by repeat (first | (with_reducible first | exact HB.out | apply below_alloc | apply pw_below_drewN | apply below_drew1 | refine below_set ?_ GE329.out | refine below_set ?_ GE330.out | refine below_set ?_ GE331.out) | exact HB.out)) hb); clear BK329; clear BK330; clear BK331; clear HB; have HO336 := n0_; have BK329 := n1_; have BK330 := n2_; have BK331 := n3_; have HB := n4_; clear n0_ n1_ n2_ n3_ n4_; clear hb ho27))
    go_loopg [8] kj3 (fun kq v8 w' => ∃ (x8_2 : List (S36)) (AD : Option Addr) (cD : Nat) (dl : List (S36)), Aside0 (impl_FlipsToFan.l0 kq x8_2 a0 dl a2 = some (r1, r2)) ∧ Aside0 (kq ≤ kj3) ∧ Aside0 (Kd.R k36 36 w' w.heap.size (apB AD dl) v8 x8_2) ∧ Aside0 (w'.heap[gb329]? = some (.cells #[.int .i64 a0] 3 (0, 0))) ∧ Aside0 (w'.heap[gb330]? = some (.cells #[(.slice AD dl.length cD)] 22 (0, 0))) ∧ Aside0 (w'.heap[gb331]? = some (.cells #[.int .i64 a2] 3 (0, 0))) ∧ Aside0 (Below w.heap.size w w') ∧ Aside0 (Kd.C k36 w' AD dl.length dl) ∧ Aside0 (dl.length ≤ cD))
    case atStart => exact ⟨(y334), A1, c1, l1, H', ⟨Nat.le_refl _⟩, ⟨by (with_reducible repeat (first | apply Kd.R_alloc | apply Kd.R_drewN | apply Kd.R_drew)); refine Kd.R_mono (Kd.R_bound HO336.out) (fun k_ hk_ hn_ a_ ha_ => ?_); have hz_ := fan_blk HR1.out hn_ a_ ha_; have hy_ := hk_.2.1; omega⟩, ⟨bk_ BK329.out⟩, ⟨bk_ BK330.out⟩, ⟨bk_ BK331.out⟩, ⟨by repeat (first | (with_reducible first | exact HB.out | apply below_alloc | apply pw_below_drewN | apply below_drew1 | refine below_set ?_ GE329.out | refine below_set ?_ GE330.out | refine below_set ?_ GE331.out) | exact HB.out)⟩, ⟨by repeat (first | exact (Kd.C_below HR1.out HB.out) | (with_reducible refine Kd.C_alloc ?_ _) | (with_reducible refine Kd.C_drewN ?_ _) | (with_reducible refine Kd.C_drew ?_))⟩, HC1⟩
    case round =>
     clear H'
     try clear c1
     try clear c2
     try clear p2
     try clear c4
     try clear c6
     try clear p6
     try clear c9
     try clear c11
     try clear c12
     try clear c14
     try clear c19
     try clear c20
     try clear c22
     try clear c25
     try clear hcz13_0
     try clear hcz15_0
     try clear hcz17_0
     try clear hcz18_0
     try clear hcz21_0
     try clear hcz23_0
     try clear hfz13_0
     try clear hfz15_0
     try clear hfz17_0
     try clear hfz18_0
     try clear hfz21_0
     try clear hfz23_0
     try clear p2
     try clear p6
     try clear HO_8
     clear HR1 HC1
     obtain ⟨x8_2, AD, cD, dl, HA, HK2, HO_8, BK329, BK330, BK331, HB, HR1, HC1⟩ := hrel
     cases gk with
     | zero => exact absurd HA.out (by simp [impl_FlipsToFan.l0])
     | succ k2 =>
      have H := HA.out
      clear HA
      simp only [impl_FlipsToFan.l0] at H
      replace H := Option.bind_eq_some_iff.mp H
      obtain ⟨t337, A280, H⟩ := H
      replace H : (if t337 < 0 then (some (x8_2, true)) else (if 0 ≤ t337 then (if t337 < (dl.length : Int) then (if x8_2.length < 8796093022208 then ((impl_flipped.f k2 a0 dl ((rd_T36 dl t337).f0) ((rd_T36 dl t337).f1)).bind fun t343 => (impl_FlipsToFan.l0 k2 (x8_2 ++ [(⟨(rd_T36 dl t337).f0, (rd_T36 dl t337).f1⟩ : S36)]) a0 t343 a2)) else (none)) else (none)) else (none))) = some (r1, r2) := H
      have A28 := Aside0.mk A280
      clear A280
      by_cases c29 : t337 < 0
      ·rw [if_pos c29] at H
       have c29b0 : decide (t337 < 0) = true := decide_eq_true c29
       clear c29
       simp only [Option.some.injEq, Prod.mk.injEq] at H
       obtain ⟨rfl, rfl⟩ := H
       have hnb30 := NB330_329.out
       have hnc30 := NB329_330.out
       have hnb31 := NB330_331.out
       have hnc31 := NB331_330.out
       have hcz32_0 : wr.cell? ⟨gb330, 0, none⟩ = some (.slice AD dl.length cD) := (blk_cell BK330.out 0).trans rfl
       have hfz32_0 := blk_frozen BK330.out 0
       go_wp2_with (first | ((with_reducible refine gate_callee (f := 89) rfl ?_); refine goesL_ (some 24) rfl rfl Try.func89 (by kernel_rfl) rfl #[.slice AD dl.length cD, .func (.func 90) #[] #[.pointer (some ⟨gb329, 0, none⟩), .pointer (some ⟨gb330, 0, none⟩), .pointer (some ⟨gb331, 0, none⟩)]] rfl amp_ ?_; (with_reducible refine (impl_Diagonal_89_s5.calls k2 _ _ dl gb329 a0 gb330 AD cD dl gb331 a2 t337 _ ?side1 ?side2 ?side3 ?side4 ?side5 ?side6 ?side7 A28.out).mono ?_); (case side1 => repeat (first | exact HR1.out | (with_reducible refine Kd.C_alloc ?_ _) | (with_reducible refine Kd.C_drewN ?_ _) | (with_reducible refine Kd.C_drew ?_))); (case side2 => exact HC1.out); (case side3 => (with_reducible repeat (first | refine blk_drewN ?_ _ | refine blk_drew ?_ | refine blk_alloc ?_ _)); exact BK329.out); (case side4 => (with_reducible repeat (first | refine blk_drewN ?_ _ | refine blk_drew ?_ | refine blk_alloc ?_ _)); exact BK330.out); (case side5 => (with_reducible repeat (first | refine blk_drewN ?_ _ | refine blk_drew ?_ | refine blk_alloc ?_ _)); exact BK331.out); (case side6 => repeat (first | exact HR1.out | (with_reducible refine Kd.C_alloc ?_ _) | (with_reducible refine Kd.C_drewN ?_ _) | (with_reducible refine Kd.C_drew ?_))); (case side7 => exact HC1.out); rintro e w33 ⟨rfl, hb⟩; refine ⟨_, rfl, ?_⟩; have n0_ := Aside0.mk (Kd.R_below (ra_ HO_8.out) hb); have n1_ := Aside0.mk (blk_below (g := gb329) (o := .cells #[.int .i64 a0] 3 (0, 0)) (bk_ BK329.out) hb); have n2_ := Aside0.mk (blk_below (g := gb330) (o := .cells #[.slice AD dl.length cD] 22 (0, 0)) (bk_ BK330.out) hb); have n3_ := Aside0.mk (blk_below (g := gb331) (o := .cells #[.int .i64 a2] 3 (0, 0)) (bk_ BK331.out) hb); have n4_ := Aside0.mk (below_step (by repeat (first | (with_reducible first | exact HB.out | apply below_alloc | apply pw_below_drewN | apply below_drew1 | refine below_set ?_ GE329.out | refine below_set ?_ GE330.out | refine below_set ?_ GE331.out) | exact HB.out)) hb); clear HO_8; clear BK329; clear BK330; clear BK331; clear HB; have HO_8 := n0_; have BK329 := n1_; have BK330 := n2_; have BK331 := n3_; have HB := n4_; clear n0_ n1_ n2_ n3_ n4_; (try clear hb); (try clear hb2); (try clear hk); (try clear hi)))
       go_ret2
       exact ⟨_, by first | rfl | (simp [errW_none, errW_some] <;> rfl) | (simp [*, errW_none, errW_some] <;> rfl), by (with_reducible repeat (first | apply Kd.R_alloc | apply Kd.R_drewN | apply Kd.R_drew)); exact Kd.R_mono HO_8.out (fun _ _ => trivial), by repeat (first | (with_reducible first | exact HB.out | apply below_alloc | apply pw_below_drewN | apply below_drew1 | refine below_set ?_ GE329.out | refine below_set ?_ GE330.out | refine below_set ?_ GE331.out) | exact HB.out)⟩
      ·rw [if_neg c29] at H
       have c29b0 : decide (t337 < 0) = false := decide_eq_false c29
       clear c29
       by_cases c34 : 0 ≤ t337
       ·rw [if_pos c34] at H
        have c34b0 : decide (0 ≤ t337) = true := decide_eq_true c34
        clear c34
        by_cases c35 : t337 < (dl.length : Int)
        ·rw [if_pos c35] at H
         have c35b0 : decide (t337 < (dl.length : Int)) = true := decide_eq_true c35
         clear c35
         by_cases c36 : x8_2.length < 8796093022208
         ·rw [if_pos c36] at H
          have LMc36 := Aside0.mk c36
          clear c36
          obtain ⟨y339, hy339⟩ : ∃ y_ : List (S36), y_ = (x8_2 ++ [(⟨(rd_T36 dl t337).f0, (rd_T36 dl t337).f1⟩ : S36)]) := ⟨_, rfl⟩
          replace H : ((impl_flipped.f k2 a0 dl ((rd_T36 dl t337).f0) ((rd_T36 dl t337).f1)).bind fun t343 => (impl_FlipsToFan.l0 k2 y339 a0 t343 a2)) = some (r1, r2) := by first | (rw [hy339]; with_reducible exact H) | (have H2_ := (Option.bind_some _ _).symm.trans H; rw [hy339]; with_reducible exact H2_) | (have H2_ := (Option.bind_some _ _).symm.trans H; with_reducible exact H2_) | with_reducible exact H | (rw [hy339]; exact H) | exact H
          have Ny339 := Aside0.mk hy339
          clear hy339
          replace H := Option.bind_eq_some_iff.mp H
          obtain ⟨t343, A370, H⟩ := H
          replace H : (impl_FlipsToFan.l0 k2 y339 a0 t343 a2) = some (r1, r2) := H
          have A37 := Aside0.mk A370
          clear A370
          have H' := Aside0.mk H
          clear H
          have hnb38 := NB330_329.out
          have hnc38 := NB329_330.out
          have hnb39 := NB330_331.out
          have hnc39 := NB331_330.out
          have hcz40_0 : wr.cell? ⟨gb330, 0, none⟩ = some (.slice AD dl.length cD) := (blk_cell BK330.out 0).trans rfl
          have hfz40_0 := blk_frozen BK330.out 0
          try go_wp2_with (first | ((with_reducible refine gate_callee (f := 89) rfl ?_); refine goesL_ (some 24) rfl rfl Try.func89 (by kernel_rfl) rfl #[.slice AD dl.length cD, .func (.func 90) #[] #[.pointer (some ⟨gb329, 0, none⟩), .pointer (some ⟨gb330, 0, none⟩), .pointer (some ⟨gb331, 0, none⟩)]] rfl amp_ ?_; (with_reducible refine (impl_Diagonal_89_s5.calls k2 _ _ dl gb329 a0 gb330 AD cD dl gb331 a2 t337 _ ?side1 ?side2 ?side3 ?side4 ?side5 ?side6 ?side7 A28.out).mono ?_); (case side1 => repeat (first | exact HR1.out | (with_reducible refine Kd.C_alloc ?_ _) | (with_reducible refine Kd.C_drewN ?_ _) | (with_reducible refine Kd.C_drew ?_))); (case side2 => exact HC1.out); (case side3 => (with_reducible repeat (first | refine blk_drewN ?_ _ | refine blk_drew ?_ | refine blk_alloc ?_ _)); exact BK329.out); (case side4 => (with_reducible repeat (first | refine blk_drewN ?_ _ | refine blk_drew ?_ | refine blk_alloc ?_ _)); exact BK330.out); (case side5 => (with_reducible repeat (first | refine blk_drewN ?_ _ | refine blk_drew ?_ | refine blk_alloc ?_ _)); exact BK331.out); (case side6 => repeat (first | exact HR1.out | (with_reducible refine Kd.C_alloc ?_ _) | (with_reducible refine Kd.C_drewN ?_ _) | (with_reducible refine Kd.C_drew ?_))); (case side7 => exact HC1.out); rintro e w41 ⟨rfl, hb⟩; refine ⟨_, rfl, ?_⟩; have nr_ := Aside0.mk (Kd.C_below (by repeat (first | exact HR1.out | (with_reducible refine Kd.C_alloc ?_ _) | (with_reducible refine Kd.C_drewN ?_ _) | (with_reducible refine Kd.C_drew ?_))) hb); clear HR1; have HR1 := nr_; clear nr_; have n0_ := Aside0.mk (Kd.R_below (ra_ HO_8.out) hb); have n1_ := Aside0.mk (blk_below (g := gb329) (o := .cells #[.int .i64 a0] 3 (0, 0)) (bk_ BK329.out) hb); have n2_ := Aside0.mk (blk_below (g := gb330) (o := .cells #[.slice AD dl.length cD] 22 (0, 0)) (bk_ BK330.out) hb); have n3_ := Aside0.mk (blk_below (g := gb331) (o := .cells #[.int .i64 a2] 3 (0, 0)) (bk_ BK331.out) hb); have n4_ := Aside0.mk (below_step (by repeat (first | (with_reducible first | exact HB.out | apply below_alloc | apply pw_below_drewN | apply below_drew1 | refine below_set ?_ GE329.out | refine below_set ?_ GE330.out | refine below_set ?_ GE331.out) | exact HB.out)) hb); clear HO_8; clear BK329; clear BK330; clear BK331; clear HB; have HO_8 := n0_; have BK329 := n1_; have BK330 := n2_; have BK331 := n3_; have HB := n4_; clear n0_ n1_ n2_ n3_ n4_; (try clear hb); (try clear hb2); (try clear hk); (try clear hi)))
          have nr_ := Aside0.mk (Kd.C_drew HR1.out)
          clear HR1
          have HR1 := nr_
          clear nr_
          have n0_ := Aside0.mk (Kd.R_drew HO_8.out)
          have n1_ := Aside0.mk (blk_drew BK329.out)
          have n2_ := Aside0.mk (blk_drew BK330.out)
          have n3_ := Aside0.mk (blk_drew BK331.out)
          have n4_ := Aside0.mk (below_drew1 HB.out)
          clear HO_8
          clear BK329
          clear BK330
          clear BK331
          clear HB
          have HO_8 := n0_
          have BK329 := n1_
          have BK330 := n2_
          have BK331 := n3_
          have HB := n4_
          clear n0_ n1_ n2_ n3_ n4_
          have p338 : 0 ≤ (t337 : Int) := odt_
          have q338 : t337 < (dl.length : Int) := odt_
          obtain ⟨ad338, e338, hx338_0, hx338_1⟩ := at_T36 HR1.out t337 p338 q338
          have hw338_1 := hx338_1
          have hw338_0 := hx338_0
          cases e338
          (first | replace hx338_0 := (HB.out.cell (World.block_lt_of_cell? w _ hx338_0)).trans hx338_0 | skip)
          (first | replace hx338_1 := (HB.out.cell (World.block_lt_of_cell? w _ hx338_1)).trans hx338_1 | skip)
          replace p338 := eq_true p338
          replace q338 := eq_true q338
          have p342 : 0 ≤ (t337 : Int) := odt_
          have q342 : t337 < (dl.length : Int) := odt_
          obtain ⟨ad342, e342, hx342_0, hx342_1⟩ := at_T36 HR1.out t337 p342 q342
          have hw342_1 := hx342_1
          have hw342_0 := hx342_0
          obtain rfl : ad338 = ad342 := (by injection e342)
          (first | replace hx342_0 := (HB.out.cell (World.block_lt_of_cell? w _ hx342_0)).trans hx342_0 | skip)
          (first | replace hx342_1 := (HB.out.cell (World.block_lt_of_cell? w _ hx342_1)).trans hx342_1 | skip)
          replace p342 := eq_true p342
          replace q342 := eq_true q342
          refine start_ (n := 16) (S := fun w' => w'.cell? ⟨gb330, 0, none⟩ = some (.slice (some ad338) dl.length cD) ∧ w'.cell? ⟨gb329, 0, none⟩ = some (.int .i64 a0) ∧ w'.cell? (ad338.add ((t337).toNat * 2)) = some (.int .i64 ((rd_T36 dl t337).f0)) ∧ w'.cell? ⟨(ad338.add ((t337).toNat * 2)).block, (ad338.add ((t337).toNat * 2)).off + 1, none⟩ = some (.int .i64 ((rd_T36 dl t337).f1)) ∧ w'.cell? (ad338.add ((t337).toNat * 2)) = some (.int .i64 ((rd_T36 dl t337).f0)) ∧ w'.cell? ⟨(ad338.add ((t337).toNat * 2)).block, (ad338.add ((t337).toNat * 2)).off + 1, none⟩ = some (.int .i64 ((rd_T36 dl t337).f1))) (ds := [15]) #[false, false, false, false, false, false, false, false, false, false, false, false, false, false, false, false] (by kernel_rfl) rfl rfl ⟨(blk_cell BK330.out 0).trans rfl, (blk_cell BK329.out 0).trans rfl, hw338_0, hw338_1, hw342_0, hw342_1⟩ (fun hHeld => ?_); refine with_tabW impl_FlipsToFan.tab7 impl_FlipsToFan.bits7 (fun HT_ HW_ => ?_)
          have hdn_ : dl ≠ [] := by intro h_; rw [h_] at c35b0; simp at c35b0; have := of_decide_eq_true c34b0; omega
          generalize w41.drew = w42 at HO_8 BK329 BK330 BK331 HB hx338_0 hx338_1 hx342_0 hx342_1 hw338_0 hw338_1 hw342_0 hw342_1 HR1 hHeld ⊢
          refine pure_ (i := 0) (N := some 28) (v := ?_) (a' := ?_) #[true, false, false, false, false, false, false, false, false, false, false, false, false, false, false, false] rfl rfl (any_of HT_.out (by kernel_rfl)) (fun _ _ _ h => h) (Or.inl ⟨by rfl, ?_⟩) ?_ ?_
          rotate_left
          ·exact gw_
          rotate_left
          ·exact ap_
          refine pure_ (i := 2) (N := some 30) (v := ?_) (a' := ?_) #[true, false, true, false, false, false, false, false, false, false, false, false, false, false, false, false] rfl rfl (any_of HT_.out (by kernel_rfl)) (fun _ _ _ h => h) (Or.inl ⟨by rfl, ?_⟩) ?_ ?_
          rotate_left
          ·exact gw_
          rotate_left
          ·exact ap_
          refine pure_ (i := 10) (N := some 38) (v := ?_) (a' := ?_) #[true, false, true, false, false, false, false, false, false, false, true, false, false, false, false, false] rfl rfl (any_of HT_.out (by kernel_rfl)) (fun _ _ _ h => h) (Or.inl ⟨by rfl, ?_⟩) ?_ ?_
          rotate_left
          ·exact gw_
          rotate_left
          ·exact ap_
          refine take_ (i := 1) (N := some 29) (v := ?_) (a' := ?_) #[true, true, true, false, false, false, false, false, false, false, true, false, false, false, false, false] rfl rfl (take_ofW HT_.out HW_.out (by kernel_rfl)) (fun _ _ _ h => h) (Or.inl ⟨by rfl, ?_⟩) hHeld ?_ ?_
          rotate_left
          ·rintro w' ⟨s0, s1, s2, s3, s4, s5⟩
           go_simp
           with_reducible rfl
          rotate_left
          ·exact ap_
          refine pure_ (i := 3) (N := some 31) (v := ?_) (a' := ?_) #[true, true, true, true, false, false, false, false, false, false, true, false, false, false, false, false] rfl rfl (any_of HT_.out (by kernel_rfl)) (fun _ _ _ h => h) (Or.inl ⟨by rfl, ?_⟩) ?_ ?_
          rotate_left
          ·exact gw_
          rotate_left
          ·exact ap_
          refine take_ (i := 4) (N := some 32) (v := ?_) (a' := ?_) #[true, true, true, true, true, false, false, false, false, false, true, false, false, false, false, false] rfl rfl (take_ofW HT_.out HW_.out (by kernel_rfl)) (fun _ _ _ h => h) (Or.inl ⟨by rfl, ?_⟩) hHeld ?_ ?_
          rotate_left
          ·rintro w' ⟨s0, s1, s2, s3, s4, s5⟩
           go_simp
           with_reducible rfl
          rotate_left
          ·exact ap_
          refine take_ (i := 7) (N := some 35) (v := ?_) (a' := ?_) #[true, true, true, true, true, false, false, true, false, false, true, false, false, false, false, false] rfl rfl (take_ofW HT_.out HW_.out (by kernel_rfl)) (fun _ _ _ h => h) (Or.inl ⟨by rfl, ?_⟩) hHeld ?_ ?_
          rotate_left
          ·rintro w' ⟨s0, s1, s2, s3, s4, s5⟩
           go_simp
           with_reducible rfl
          rotate_left
          ·exact ap_
          refine take_ (i := 8) (N := some 36) (v := ?_) (a' := ?_) #[true, true, true, true, true, false, false, true, true, false, true, false, false, false, false, false] rfl rfl (take_ofW HT_.out HW_.out (by kernel_rfl)) (fun _ _ _ h => h) (Or.inl ⟨by rfl, ?_⟩) hHeld ?_ ?_
          rotate_left
          ·rintro w' ⟨s0, s1, s2, s3, s4, s5⟩
           go_simp
           with_reducible rfl
          rotate_left
          ·exact ap_
          refine take_ (i := 9) (N := some 37) (v := ?_) (a' := ?_) #[true, true, true, true, true, false, false, true, true, true, true, false, false, false, false, false] rfl rfl (take_ofW HT_.out HW_.out (by kernel_rfl)) (fun _ _ _ h => h) (Or.inl ⟨by rfl, ?_⟩) hHeld ?_ ?_
          rotate_left
          ·rintro w' ⟨s0, s1, s2, s3, s4, s5⟩
           go_simp
           with_reducible rfl
          rotate_left
          ·exact ap_
          refine pure_ (i := 11) (N := some 39) (v := ?_) (a' := ?_) #[true, true, true, true, true, false, false, true, true, true, true, true, false, false, false, false] rfl rfl (any_of HT_.out (by kernel_rfl)) (fun _ _ _ h => h) (Or.inl ⟨by rfl, ?_⟩) ?_ ?_
          rotate_left
          ·exact gw_
          rotate_left
          ·exact ap_
          refine take_ (i := 12) (N := some 40) (v := ?_) (a' := ?_) #[true, true, true, true, true, false, false, true, true, true, true, true, true, false, false, false] rfl rfl (take_ofW HT_.out HW_.out (by kernel_rfl)) (fun _ _ _ h => h) (Or.inl ⟨by rfl, ?_⟩) hHeld ?_ ?_
          rotate_left
          ·rintro w' ⟨s0, s1, s2, s3, s4, s5⟩
           go_simp
           with_reducible rfl
          rotate_left
          ·exact ap_
          refine one_ (i := 5) (N := some 33) #[true, true, true, true, true, true, false, true, true, true, true, true, true, false, false, false] rfl rfl (one_of HT_.out (by kernel_rfl)) (by decide) (fun K hK => ?_)
          refine value_ (w1 := ?_) (v := ?_) (by rfl) rfl ?_ ?_
          rotate_left 2
          ·go_simp
           constructor
           ·rfl
           ·rfl
          refine hK.out _ _ ⟨(blk_cell (blk_alloc BK330.out _) 0).trans rfl, (blk_cell (blk_alloc BK329.out _) 0).trans rfl, (World.cell?_alloc_lt _ _ _ (World.block_lt_of_cell? _ _ (hw338_0))).trans (hw338_0), (World.cell?_alloc_lt _ _ _ (World.block_lt_of_cell? _ _ (hw338_1))).trans (hw338_1), (World.cell?_alloc_lt _ _ _ (World.block_lt_of_cell? _ _ (hw342_0))).trans (hw342_0), (World.cell?_alloc_lt _ _ _ (World.block_lt_of_cell? _ _ (hw342_1))).trans (hw342_1)⟩ (fun hHeld => ?_)
          clear hK K
          refine norm_ (a' := ?_) ?_ ?_
          rotate_left
          ·show Act.put _ (some 33) _ = _
           simp only [Act.put, List.setIfInBounds_toArray, List.set_cons_zero, List.set_cons_succ, i64_w, i32_w]
           rfl
          refine one_ (i := 6) (N := some 34) #[true, true, true, true, true, true, true, true, true, true, true, true, true, false, false, false] rfl rfl (one_of HT_.out (by kernel_rfl)) (by decide) (fun K hK => ?_)
          refine Kd.R_append_step k36 (w0 := w) w.heap.size (by rfl) (.tmp 28) (.tmp 33) 22 36 (.agg #[(.int .i64 0), (.int .i64 0)]) 16 rfl Try.underlying22 info36 rfl (by decide) (by omega) u8 x8_2 (⟨(rd_T36 dl t337).f0, (rd_T36 dl t337).f1⟩ : S36) [.int .i64 ((rd_T36 dl t337).f0), .int .i64 ((rd_T36 dl t337).f1)] (apB (some ad338) dl) (fun _ => False) rfl rfl ?aP (fun _ hk => hk.elim) ?aF ?aO ?aB ?aS ?aL ?_
          (case aP => exact k36_mkM _ _ _ (⟨(rd_T36 dl t337).f0, (rd_T36 dl t337).f1⟩ : S36))
          (case aB => exact (by repeat (first | (with_reducible first | exact HB.out | apply below_alloc | apply pw_below_drewN | apply below_drew1 | refine below_set ?_ GE329.out | refine below_set ?_ GE330.out | refine below_set ?_ GE331.out) | exact HB.out)))
          (case aF => exact (fun k_ hk_ hn_ a_ ha_ => by have hz_ := fan_blk HR1.out hn_ a_ ha_; omega))
          (case aO => exact (ra_ HO_8.out))
          (case aS => exact (below_size (by repeat (first | (with_reducible first | exact HB.out | apply below_alloc | apply pw_below_drewN | apply below_drew1 | refine below_set ?_ GE329.out | refine below_set ?_ GE330.out | refine below_set ?_ GE331.out) | exact HB.out))))
          (case aL => have := LMc36.out; omega)
          intro v340 w43 ho hb hg hat
          rw [← Ny339.out] at ho
          have ng0_ := fan_cell (ad := ad338) hdn_ (by exact fan_add _ _) hw338_0 hg HO_8.out
          have ng1_ := fan_cell (ad := ad338) hdn_ (by exact fan_add _ _) hw338_1 hg HO_8.out
          have nr_ := Aside0.mk (fan_grown HR1.out hg HO_8.out)
          clear HR1 hw338_0 hw338_1 hw342_0 hw342_1
          have HR1 := nr_
          have hw338_0 := ng0_
          have hw338_1 := ng1_
          have hw342_0 := ng0_
          have hw342_1 := ng1_
          clear nr_ ng0_ ng1_
          have n0_ := Aside0.mk (blk_grown (g := gb329) (o := .cells #[.int .i64 a0] 3 (0, 0)) (bk_ BK329.out) hg (Kd.R_ne HO_8.out BK329.out (by decide)))
          have n1_ := Aside0.mk (blk_grown (g := gb330) (o := .cells #[.slice (some ad338) dl.length cD] 22 (0, 0)) (bk_ BK330.out) hg (Kd.R_ne HO_8.out BK330.out (by decide)))
          have n2_ := Aside0.mk (blk_grown (g := gb331) (o := .cells #[.int .i64 a2] 3 (0, 0)) (bk_ BK331.out) hg (Kd.R_ne HO_8.out BK331.out (by decide)))
          have n3_ := Aside0.mk (hb)
          have n4_ := Aside0.mk (ho)
          clear BK329
          clear BK330
          clear BK331
          clear HB
          clear HO_8
          have BK329 := n0_
          have BK330 := n1_
          have BK331 := n2_
          have HB := n3_
          have HO341 := n4_
          clear n0_ n1_ n2_ n3_ n4_
          clear ho hb hg hat
          refine hK.out _ _ ⟨(blk_cell BK330.out 0).trans rfl, (blk_cell BK329.out 0).trans rfl, hw338_0, hw338_1, hw342_0, hw342_1⟩ (fun hHeld => ?_)
          clear hK K
          refine norm_ (a' := ?_) ?_ ?_
          rotate_left
          ·show Act.put _ (some 34) _ = _
           simp only [Act.put, List.setIfInBounds_toArray, List.set_cons_zero, List.set_cons_succ, i64_w, i32_w]
           rfl
          refine one_ (i := 13) (N := some 41) #[true, true, true, true, true, true, true, true, true, true, true, true, true, true, false, false] rfl rfl (one_of HT_.out (by kernel_rfl)) (by decide) (fun K hK => ?_)
          refine goes_ Try.func80 (by kernel_rfl) rfl #[.int .i64 a0, .slice (some ad338) dl.length cD, .agg #[.int .i64 ((rd_T36 dl t337).f0), .int .i64 ((rd_T36 dl t337).f1)]] (by rfl) rfl rfl amp_ ?_
          with_reducible refine (impl_flipped.calls k2 a0 _ _ dl ((rd_T36 dl t337).f0) ((rd_T36 dl t337).f1) t343 _ ?side1 ?side2 A37.out).mono ?_
          (case side1 => repeat (first | exact HR1.out | (with_reducible refine Kd.C_alloc ?_ _) | (with_reducible refine Kd.C_drewN ?_ _) | (with_reducible refine Kd.C_drew ?_)))
          (case side2 => exact HC1.out)
          rintro e w44 ⟨v344, rfl, ho0, hb⟩
          refine ⟨_, rfl, ?_⟩
          have ng0_ := (hb.cell (World.block_lt_of_cell? _ _ hw338_0)).trans hw338_0
          have ng1_ := (hb.cell (World.block_lt_of_cell? _ _ hw338_1)).trans hw338_1
          clear hw338_0 hw338_1 hw342_0 hw342_1
          have hw338_0 := ng0_
          have hw338_1 := ng1_
          have hw342_0 := ng0_
          have hw342_1 := ng1_
          clear ng0_ ng1_
          have n0_ := Aside0.mk (Kd.R_elder' (ra_ HO341.out) (Kd.R_base ho0) hb)
          have n1_ := Aside0.mk (Kd.R_lower (Kd.R_new' ho0 (Kd.R_lt (ra_ HO341.out))) (below_size (by repeat (first | (with_reducible first | exact HB.out | apply below_alloc | apply pw_below_drewN | apply below_drew1 | refine below_set ?_ GE329.out | refine below_set ?_ GE330.out | refine below_set ?_ GE331.out) | exact HB.out))))
          have n2_ := Aside0.mk (blk_below (g := gb329) (o := .cells #[.int .i64 a0] 3 (0, 0)) (bk_ BK329.out) hb)
          have n3_ := Aside0.mk (blk_below (g := gb330) (o := .cells #[.slice (some ad338) dl.length cD] 22 (0, 0)) (bk_ BK330.out) hb)
          have n4_ := Aside0.mk (blk_below (g := gb331) (o := .cells #[.int .i64 a2] 3 (0, 0)) (bk_ BK331.out) hb)
          have n5_ := Aside0.mk (below_step (by repeat (first | (with_reducible first | exact HB.out | apply below_alloc | apply pw_below_drewN | apply below_drew1 | refine below_set ?_ GE329.out | refine below_set ?_ GE330.out | refine below_set ?_ GE331.out) | exact HB.out)) hb)
          clear HO341
          clear BK329
          clear BK330
          clear BK331
          clear HB
          have HO341 := n0_
          have HO345 := n1_
          have BK329 := n2_
          have BK330 := n3_
          have BK331 := n4_
          have HB := n5_
          clear n0_ n1_ n2_ n3_ n4_ n5_
          (try clear hb)
          (try clear hb2)
          (try clear hk)
          (try clear hi)
          (try clear ho0)
          obtain ⟨Ao45, co45, eo45⟩ := Kd.R_slice HO345.out
          (first | subst eo45 | (injection eo45 with f1_ f2_ f3_; have f4_ := f1_.symm; have f5_ := f3_.symm; clear f1_ f2_ f3_; subst f4_; subst f5_))
          refine hK.out _ _ ⟨(blk_cell BK330.out 0).trans rfl, (blk_cell BK329.out 0).trans rfl, hw338_0, hw338_1, hw342_0, hw342_1⟩ (fun hHeld => ?_)
          clear hK K
          refine norm_ (a' := ?_) ?_ ?_
          rotate_left
          ·show Act.put _ (some 41) _ = _
           simp only [Act.put, List.setIfInBounds_toArray, List.set_cons_zero, List.set_cons_succ, i64_w, i32_w]
           rfl
          refine pure_ (i := 14) (N := some 8) (v := ?_) (a' := ?_) #[true, true, true, true, true, true, true, true, true, true, true, true, true, true, true, false] rfl rfl (any_of HT_.out (by kernel_rfl)) (fun _ _ _ h => h) (Or.inl ⟨by rfl, ?_⟩) ?_ ?_
          rotate_left
          ·exact gw_
          rotate_left
          ·exact ap_
          refine last_ (i := 15) (N := none) #[true, true, true, true, true, true, true, true, true, true, true, true, true, true, true, true] rfl rfl (one_of HT_.out (by kernel_rfl)) (by decide) (fun K hK => ?_)
          have hs46 : w44.cell? ⟨gb330, 0, none⟩ = some (.slice (some ad338) dl.length cD) := (blk_cell BK330.out 0).trans rfl
          have hfs46 := blk_frozen BK330.out 0
          have hns46_0 := NB329_330.out
          have hns46_2 := NB331_330.out
          have hms46_0 := NB330_329.out
          have hms46_2 := NB330_331.out
          refine skip_ (w1 := ?_) (by rfl) rfl ?_ ?_
          rotate_left
          ·go_simp
           rfl
          refine hK.out _ _ ?_
          clear hK K
          refine done_ (done_of HT_.out (by kernel_rfl)) ?_
          try go_wp2
          go_roundg k2
          case measure => have := HJ3.out; have := HK2.out; omega
          case rel => exact ⟨(y339), Ao45, co45, t343, H', ⟨by have := HJ3.out; have := HK2.out; omega⟩, ⟨by (with_reducible repeat (first | apply Kd.R_alloc | apply Kd.R_drewN | apply Kd.R_drew)); refine Kd.R_mono (Kd.R_far (p := ⟨gb330, 0, none⟩) (Kd.R_types HO341.out BK330.out (by decide)) (fun _ hk => hk.2) (.slice Ao45 t343.length co45)) (fun k_ hk hn_ a_ ha_ => ?_); exact fun h_ => far_own (Kd.R_own HO345.out).choose_spec hk.1.2 a_ ha_ (List.length_pos_iff.2 hn_) h_.symm⟩, ⟨by (with_reducible repeat (first | refine blk_drewN ?_ _ | refine blk_drew ?_ | refine blk_alloc ?_ _)); refine blk_far ?_ NB329_330.out _; (with_reducible repeat (first | refine blk_drewN ?_ _ | refine blk_drew ?_ | refine blk_alloc ?_ _)); exact BK329.out⟩, ⟨by (with_reducible repeat (first | refine blk_drewN ?_ _ | refine blk_drew ?_ | refine blk_alloc ?_ _)); refine blk_put (cs := #[.slice (some ad338) dl.length cD]) ?_ 0 _ rfl; (with_reducible repeat (first | refine blk_drewN ?_ _ | refine blk_drew ?_ | refine blk_alloc ?_ _)); exact BK330.out⟩, ⟨by (with_reducible repeat (first | refine blk_drewN ?_ _ | refine blk_drew ?_ | refine blk_alloc ?_ _)); refine blk_far ?_ NB331_330.out _; (with_reducible repeat (first | refine blk_drewN ?_ _ | refine blk_drew ?_ | refine blk_alloc ?_ _)); exact BK331.out⟩, ⟨by repeat (first | (with_reducible first | exact HB.out | apply below_alloc | apply pw_below_drewN | apply below_drew1 | refine below_set ?_ GE329.out | refine below_set ?_ GE330.out | refine below_set ?_ GE331.out) | exact HB.out)⟩, ⟨fan_move (Kd.R_reads' HO345.out).2.2 (fun a_ hn_ ha_ hl_ => Below.heap_setCell _ _ _ _ (far_own (Kd.R_own (Kd.R_types HO345.out BK330.out (by decide))).choose_spec (fun h_ => (Kd.R_ne HO345.out BK330.out (by decide)) h_) a_ ha_ (List.length_pos_iff.2 hn_)))⟩, ⟨(Kd.R_reads' HO345.out).2.1⟩⟩
         ·rw [if_neg c36] at H
          exact absurd H (by simp)
        ·rw [if_neg c35] at H
         exact absurd H (by simp)
       ·rw [if_neg c34] at H
        exact absurd H (by simp)

end Go.Proofs.Ytkipgbakoljaeaa.PFnExactFlipsToFan
