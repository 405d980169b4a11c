-- WRITTEN BY A PROGRAM OF THIS WORK (wip/tools/ppatch.py) for this claim.
import Derived.Test.YtgblginphicacaaPFnExactAllClassesx0
import Derived.Test.YtgblginphicacaaPFnExactAllClassesx7
import Derived.Test.YtgblginphicacaaPFnExactAllClassesx10
import Derived.Test.YtgblginphicacaaPFnExactAllClassesx11
namespace Go.Proofs.Ytgblginphicacaa.PFnExactAllClasses
open Go.RowKit Go.Proofs.YtgblginphicacaaW.PrintWords Go.Proofs.YtgblginphicacaaW.PrintLast Go.Proofs.YtgblginphicacaaW.PrintMore
attribute [local go_sem] max2_int min2_int max_two min_two max_three min_three max_four min_four   -- for this text's walks alone
set_option linter.unusedVariables false
set_option linter.unusedSimpArgs false

/-! ### impl_Diagonal_111: function 111 -/
/-- Twelve elements or fewer: an insertion sort. -/
def impl_Diagonal_111.f (k : Nat) (l0 : List S52) (a1 : Int) (a2 : Int) (a3 : Int) : Option (List S52) := if 0 ≤ a1 ∧ a1 ≤ a2 ∧ a2 ≤ 4611686018427387904 ∧ a2 - a1 ≤ 12 then impl_Diagonal_120_s1.f k l0 a1 a2 else none
theorem impl_Diagonal_111.mono : ∀ a0 a1 a2 a3 k, LeO (impl_Diagonal_111.f k a0 a1 a2 a3) (impl_Diagonal_111.f (k + 1) a0 a1 a2 a3) := by
 intro a0 a1 a2 a3 k
 unfold impl_Diagonal_111.f
 exact LeO.ite (impl_Diagonal_120_s1.mono _ _ _ _) (LeO.refl _)
set_option maxHeartbeats 4000000 in
set_option maxRecDepth 100000 in
theorem impl_Diagonal_111.calls (k : Nat) (P0_ : Nat → Prop) (u9000_ : Value) (l0 : List S52) (a1 : Int) (a2 : Int) (a3 : Int) (r : List S52) (w0 w : World) (hB : Below w0.heap.size w0 w) (ho0 : Kd.R k52 52 w w0.heap.size P0_ u9000_ l0) (h : impl_Diagonal_111.f k l0 a1 a2 a3 = some r) :
  Calls Try.prog 111 #[u9000_, .int .i64 a1, .int .i64 a2, .int .i64 a3, .func (.func 74) #[] #[]] w fun e w' => e = .returned (.tuple #[]) ∧ Kd.R k52 52 w' w0.heap.size (fun k_ => (P0_ k_ ∨ w.heap.size ≤ k_)) u9000_ r ∧ Below w0.heap.size w0 w' ∧ Kept w w' (fun k_ => P0_ k_) := by
 have H : (if 0 ≤ a1 ∧ a1 ≤ a2 ∧ a2 ≤ 4611686018427387904 ∧ a2 - a1 ≤ 12 then impl_Diagonal_120_s1.f k l0 a1 a2 else none) = some r := h
 clear h
 by_cases c : 0 ≤ a1 ∧ a1 ≤ a2 ∧ a2 ≤ 4611686018427387904 ∧ a2 - a1 ≤ 12
 ·rw [if_pos c] at H
  obtain ⟨c1, c2, c3, c4⟩ := c
  have hi := impl_Diagonal_120_s1.calls k P0_ u9000_ l0 a1 a2 r w0 w hB ho0 H
  have HI := Lib.hid hi
  clear hi H hB ho0
  go_enter Try.func111, Try.ntmps111
  go_wp2
  refine wp_loop_rounds 1 ?_
  rw [rounds_succ]
  go_wp2_with (go_at_call 120; refine HI.out.mono ?_; rintro e w' ⟨rfl, hr, hb, hk⟩)
  (try simp only [Exit.inBlock, Exit.then])
  refine bodyPost_ret (results_none rfl _ _ _) rfl ?_
  exact ⟨rfl, hr, hb, hk⟩
 ·rw [if_neg c] at H
  cases H

-- TOLD FOR impl_turned_1_s3: impl.turned$1 | 
/-! ### impl_turned_1_s3: function 100003 -/
def impl_turned_1_s3.f (a0 : Int) (a1_0_0 : Int) (a2_0_0 : Int) : Option (Int) := if a2_0_0 = 0 then (none) else (some (Int.tmod (wrap64 (a0 + a1_0_0)) a2_0_0))
set_option maxHeartbeats 8000000 in
set_option maxRecDepth 100000 in
theorem impl_turned_1_s3.calls (a0 : Int) (gc1_0 : Nat) (a1_0_0 : Int) (gc2_0 : Nat) (a2_0_0 : Int) (r : Int) (w : World) (hb1_0 : w.heap[gc1_0]? = some (.cells #[.int .i64 a1_0_0] 3 (0, 0))) (hb2_0 : w.heap[gc2_0]? = some (.cells #[.int .i64 a2_0_0] 3 (0, 0))) (h : impl_turned_1_s3.f a0 a1_0_0 a2_0_0 = some r) :
  Calls Try.prog 97 #[.int .i64 a0, .pointer (some ⟨gc1_0, 0, none⟩), .pointer (some ⟨gc2_0, 0, none⟩)] w fun e w' => e = .returned (.int .i64 r) ∧ Drawn0 w w' := by
 have BK20 := Aside0.mk hb1_0
 clear hb1_0
 have BK30 := Aside0.mk hb2_0
 clear hb2_0
 have H : (if a2_0_0 = 0 then (none) else (some (Int.tmod (wrap64 (a0 + a1_0_0)) a2_0_0))) = some r := h
 clear h
 by_cases c4 : a2_0_0 = 0
 ·rw [if_pos c4] at H
  exact absurd H (by simp)
 ·rw [if_neg c4] at H
  have c4b0 : (a2_0_0 == 0) = false := beq_eq_false_iff_ne.mpr c4
  have c4b1 : (a2_0_0 != 0) = true := bne_iff_ne.mpr c4
  obtain rfl := Option.some.inj H
  have hcz6_0 : w.cell? ⟨gc1_0, 0, none⟩ = some (.int .i64 a1_0_0) := (blk_cell BK20.out 0).trans rfl
  have hfz6_0 := blk_frozen BK20.out 0
  have hcz7_0 : w.cell? ⟨gc2_0, 0, none⟩ = some (.int .i64 a2_0_0) := (blk_cell BK30.out 0).trans rfl
  have hfz7_0 := blk_frozen BK30.out 0
  go_enter Try.func97, Try.ntmps97
  go_wp2
  go_ret
  exact ⟨by first | rfl | (simp; done) | (simp [*]; done), by repeat (first | exact Drawn0.refl _ | apply Drawn0.step)⟩

-- TOLD FOR impl_Diagonal_89_s4: slices.SortFunc[[]impl.Diagonal,impl.Diagonal] | impl.compareDiagonals
/-! ### impl_Diagonal_89_s4: function 100004 -/
def impl_Diagonal_89_s4.f (k : Nat) (l0 : List (S52))  : Option ((List (S52))) := (bits_Len.f k (IntKind.u64.wrap ((l0.length : Int)))).bind fun t256 => ((impl_Diagonal_111.f k l0 0 (l0.length : Int) t256).bind fun t257 => (some t257))
theorem impl_Diagonal_89_s4.mono : ∀ a0 k, LeO (impl_Diagonal_89_s4.f k a0) (impl_Diagonal_89_s4.f (k + 1) a0) := by
 intro a0 k
 unfold impl_Diagonal_89_s4.f
 repeat' first
   | (with_reducible exact bits_Len.mono _ _)
   | (with_reducible exact impl_Diagonal_111.mono _ _ _ _ _)
   | (with_reducible exact LeO.refl _)
   | (with_reducible exact LeO.none _)
   | (with_reducible refine LeO.ite ?_ ?_)
   | (with_reducible refine LeO.bind ?_ (fun _ => ?_))
   | exact bits_Len.mono _ _
   | exact impl_Diagonal_111.mono _ _ _ _ _
   | exact LeO.none _
   | refine LeO.ite ?_ ?_
   | refine LeO.bind ?_ (fun _ => ?_)
set_option maxHeartbeats 8000000 in
set_option maxRecDepth 100000 in
theorem impl_Diagonal_89_s4.calls (k : Nat) (P0_ : Nat → Prop) (u9000_ : Value) (l0 : List (S52))  (r : List (S52)) (w0 w : World) (hB : Below w0.heap.size w0 w) (ho0 : Kd.R k52 52 w w0.heap.size P0_ u9000_ l0) (h : impl_Diagonal_89_s4.f k l0 = some r) :
  Calls Try.prog 89 #[u9000_, .func (.func 74) #[] #[]] w fun e w' => e = .returned (.tuple #[]) ∧ Kd.R k52 52 w' w0.heap.size (fun k_ => (P0_ k_ ∨ w.heap.size ≤ k_)) u9000_ r ∧ Below w0.heap.size w0 w' ∧ Kept w w' (fun k_ => P0_ k_) := by
 have HO0 := Aside0.mk (show Kd.R k52 52 w w0.heap.size (fun k_ => (P0_ k_ ∨ w.heap.size ≤ k_)) u9000_ l0 from Kd.R_mono ho0 (fun k_ hk => (.inl hk)))
 have HK := Aside0.mk (Kept.refl w (fun k_ => P0_ k_))
 have HW0 := Aside0.mk hB.size
 have HB := Aside0.mk hB
 clear hB
 have H : ((bits_Len.f k (IntKind.u64.wrap ((l0.length : Int)))).bind fun t256 => ((impl_Diagonal_111.f k l0 0 (l0.length : Int) t256).bind fun t257 => (some t257))) = some r := h
 clear h
 replace H := Option.bind_eq_some_iff.mp H
 obtain ⟨t256, A30, H⟩ := H
 replace H : ((impl_Diagonal_111.f k l0 0 (l0.length : Int) t256).bind fun t257 => (some t257)) = some r := H
 have A3 := Aside0.mk A30
 clear A30
 replace H := Option.bind_eq_some_iff.mp H
 obtain ⟨t257, A40, H⟩ := H
 replace H : (some t257) = some r := H
 have A4 := Aside0.mk A40
 clear A40
 obtain rfl := Option.some.inj H
 obtain ⟨Ao5, co5, eo5⟩ := Kd.R_slice HO0.out
 subst eo5
 go_enter Try.func89, Try.ntmps89
 go_wp2_with (first | ((with_reducible refine gate_callee (f := 77) rfl ?_); refine goesL_ (some 11) rfl rfl Try.func77 (by kernel_rfl) rfl #[.int .u64 (IntKind.u64.wrap ((l0.length : Int)))] rfl amp_ ?_; (with_reducible refine (bits_Len.calls k (IntKind.u64.wrap ((l0.length : Int))) t256 _ A3.out).mono ?_); rintro e w' ⟨rfl, ⟨nd, rfl⟩⟩; refine ⟨_, rfl, ?_⟩) | ((with_reducible refine gate_callee (f := 111) rfl ?_); refine goesL_ (some 13) rfl rfl Try.func111 (by kernel_rfl) rfl #[.slice Ao5 l0.length co5, .int .i64 0, .int .i64 (l0.length : Int), .int .i64 t256, .func (.func 74) #[] #[]] rfl amp_ ?_; (with_reducible refine (impl_Diagonal_111.calls k (fun k_ => some k_ = (.slice Ao5 l0.length co5 : Value).ownBlock) (.slice Ao5 l0.length co5) l0 0 (l0.length : Int) t256  t257 w0 _ ?side1 ?side2 A4.out).mono ?_); (case side1 => repeat (first | (with_reducible first | exact HB.out | apply below_alloc | apply pw_below_drewN | apply below_drew1) | exact HB.out)); (case side2 => exact Kd.R_tight rfl HO0.out); rintro e w6 ⟨rfl, hy0, hb, hkp⟩; refine ⟨_, rfl, ?_⟩; have n0_ := Aside0.mk (Kd.R_reok rfl hy0 (fun k_ e_ => HO0.out.1 k_ e_)); have n1_ := Aside0.mk (Kept.then_ (S := (fun k_ => P0_ k_)) (by repeat (first | (with_reducible first | exact HK.out | apply Kept.alloc | apply Kept.drewN | apply Kept.drew) | exact HK.out)) hkp (fun k_ hs_ => (fun e_ => (HO0.out.1 k_ e_.symm)) hs_)); have n2_ := Aside0.mk (hb); clear HO0; clear HK; clear HB; have HO0 := n0_; have HK := n1_; have HB := n2_; clear n0_ n1_ n2_; (try clear hb); (try clear hkp); (try clear hy0)))
 first | go_end0 | ((try simp only [Exit.inBlock, Exit.then]); refine bodyPost_ret (results_none rfl _ _ _) rfl ?_)
 exact ⟨by first | rfl | (simp [errW_none, errW_some] <;> rfl) | (simp [*, errW_none, errW_some] <;> rfl), by (with_reducible repeat (first | apply Kd.R_alloc | apply Kd.R_drewN | apply Kd.R_drew)); exact HO0.out, by repeat (first | (with_reducible first | exact HB.out | apply below_alloc | apply pw_below_drewN | apply below_drew1) | exact HB.out), by repeat (first | (with_reducible first | exact HK.out | apply Kept.alloc | apply Kept.drewN | apply Kept.drew) | exact HK.out)⟩

-- TOLD FOR impl_renamed_s2: impl.renamed | impl.turned$1
/-! ### impl_renamed_s2: function 100002 -/
def impl_renamed_s2.l0 : Nat → List (S52) → List (S52) → Int → Int → Int → Int → Option ((List (S52)))
 | 0, _, _, _, _, _, _ => none
 | k + 1, x5, x11, x12, x13, x21000, x22000 => if x13 < x12 then (if 0 ≤ x13 then (if x13 < (x11.length : Int) then ((impl_turned_1_s3.f ((rd_T52 x11 x13).f0) x21000 x22000).bind fun t263 => ((impl_turned_1_s3.f ((rd_T52 x11 x13).f1) x21000 x22000).bind fun t264 => (if x5.length < 8796093022208 then (impl_renamed_s2.l0 k (x5 ++ [(⟨mn t263 t264, mx t263 t264⟩ : S52)]) x11 x12 (wrap64 (x13 + 1)) x21000 x22000) else (none)))) else (none)) else (none)) else ((impl_Diagonal_89_s4.f k x5).bind fun t268 => (some t268))
def impl_renamed_s2.f (k : Nat) (l0 : List (S52)) (a1_0_0 : Int) (a1_1_0 : Int) : Option ((List (S52))) := impl_renamed_s2.l0 k (([] : List (S52))) l0 (l0.length : Int) 0 a1_0_0 a1_1_0
theorem impl_renamed_s2.mono_l : ∀ k, (∀ y0 y1 y2 y3 y4 y5, LeO (impl_renamed_s2.l0 k y0 y1 y2 y3 y4 y5) (impl_renamed_s2.l0 (k + 1) y0 y1 y2 y3 y4 y5))
 | 0 => fun _ _ _ _ _ _ r h => by simp [impl_renamed_s2.l0] at h
 | k + 1 => by
  have ih0 := impl_renamed_s2.mono_l k
  ·intro y0 y1 y2 y3 y4 y5
   unfold impl_renamed_s2.l0
   repeat' first
   | (with_reducible exact ih0 _ _ _ _ _ _)
   | (with_reducible exact impl_Diagonal_89_s4.mono _ _)
   | (with_reducible exact LeO.refl _)
   | (with_reducible exact LeO.none _)
   | (with_reducible refine LeO.ite ?_ ?_)
   | (with_reducible refine LeO.bind ?_ (fun _ => ?_))
   | exact ih0 _ _ _ _ _ _
   | exact impl_Diagonal_89_s4.mono _ _
   | exact LeO.none _
   | refine LeO.ite ?_ ?_
   | refine LeO.bind ?_ (fun _ => ?_)
theorem impl_renamed_s2.mono : ∀ a0 a1 a2 k, LeO (impl_renamed_s2.f k a0 a1 a2) (impl_renamed_s2.f (k + 1) a0 a1 a2) := by
 intro a0 a1 a2 k
 have ih0 := impl_renamed_s2.mono_l k
 unfold impl_renamed_s2.f
 repeat' first
   | (with_reducible exact ih0 _ _ _ _ _ _)
   | (with_reducible exact impl_Diagonal_89_s4.mono _ _)
   | (with_reducible exact LeO.refl _)
   | (with_reducible exact LeO.none _)
   | (with_reducible refine LeO.ite ?_ ?_)
   | (with_reducible refine LeO.bind ?_ (fun _ => ?_))
   | exact ih0 _ _ _ _ _ _
   | exact impl_Diagonal_89_s4.mono _ _
   | exact LeO.none _
   | refine LeO.ite ?_ ?_
   | refine LeO.bind ?_ (fun _ => ?_)
def impl_renamed_s2.T5 : Bool × List (List Nat × List Nat) := (true, [([], []), ([], []), ([1], [1]), ([0, 2], [0, 2]), ([], []), ([], []), ([5], [5]), ([4, 6, 3], [4, 6]), ([3, 7, 0, 1, 2, 3], [3]), ([7, 8, 0, 1, 2, 3, 4, 5, 6, 7, 8], [7])])
def impl_renamed_s2.B5 : List Nat := [0, 0, 2, 7, 0, 0, 32, 127, 255, 511]
theorem impl_renamed_s2.tab5 : rtab .any (opsOf Try.f71 5) = impl_renamed_s2.T5 := by kernel_rfl
theorem impl_renamed_s2.bits5 : waitsOk impl_renamed_s2.T5.2 impl_renamed_s2.B5 = true := by kernel_rfl
set_option maxHeartbeats 8000000 in
set_option maxRecDepth 100000 in
theorem impl_renamed_s2.calls (k : Nat) (A0 : Option Addr) (c0 : Nat) (l0 : List (S52)) (gc1_0 : Nat) (a1_0_0 : Int) (gc1_1 : Nat) (a1_1_0 : Int) (r : List (S52)) (w : World) (hr0 : Kd.C k52 w A0 l0.length l0) (hc0 : l0.length ≤ c0) (hb1_0 : w.heap[gc1_0]? = some (.cells #[.int .i64 a1_0_0] 3 (0, 0))) (hb1_1 : w.heap[gc1_1]? = some (.cells #[.int .i64 a1_1_0] 3 (0, 0))) (h : impl_renamed_s2.f k l0 a1_0_0 a1_1_0 = some r) :
  Calls Try.prog 71 #[.slice A0 l0.length c0, .func (.func 97) #[] #[.pointer (some ⟨gc1_0, 0, none⟩), .pointer (some ⟨gc1_1, 0, none⟩)]] w fun e w' => ∃ v0_ : Value, e = .returned (v0_) ∧ Kd.R k52 52 w' w.heap.size (fun _ => True) v0_ r ∧ Below w.heap.size w w' := by
 have hu52 := Try.underlying52
 have HR0 := Aside0.mk hr0
 have HC0 := Aside0.mk hc0
 clear hr0 hc0
 have BK20 := Aside0.mk hb1_0
 clear hb1_0
 have BK21 := Aside0.mk hb1_1
 clear hb1_1
 have HB := Aside0.mk (Below.refl w.heap.size w)
 have H : (impl_renamed_s2.l0 k (([] : List (S52))) l0 (l0.length : Int) 0 a1_0_0 a1_1_0) = some r := h
 clear h
 obtain ⟨y258, hy258⟩ : ∃ y_ : List (S52), y_ = (([] : List (S52))) := ⟨_, rfl⟩
 replace H : (impl_renamed_s2.l0 k y258 l0 (l0.length : Int) 0 a1_0_0 a1_1_0) = some r := by first | (rw [hy258]; with_reducible exact H) | (have H2_ := (Option.bind_some _ _).symm.trans H; rw [hy258]; with_reducible exact H2_) | (have H2_ := (Option.bind_some _ _).symm.trans H; with_reducible exact H2_) | with_reducible exact H | (rw [hy258]; exact H) | exact H
 have Ny258 := Aside0.mk hy258
 clear hy258
 have H' := Aside0.mk H
 clear H
 go_enter Try.func71, Try.ntmps71
 go_wp2_with (first | ((with_reducible refine gate_dst (N := 10) rfl ?_); refine Kd.R_lit k52 _ 52 ?hg (N := 10) ?hd (xs := ([] : List (S52))) (inner := []) (ok := fun _ => True) (okp := fun _ => True) ?hr ?hp (fun _ hk => hk) trivial (Below.refl _ _) (Nat.le_refl _) (by simp) ?_; (case hd => rfl); (case hg => rfl); (case hr => first | (go_simp; done) | (go_simp; rfl)); (case hp => exact (Reps.none _ _)); intro v259 w3 ho4 hb hg_ hnew_; clear hg_ hnew_; (first | rw [← Ny258.out] at ho4 | (simp only [Int.reduceToNat] at ho4; rw [← Ny258.out] at ho4)); have n0_ := Aside0.mk (Kd.R_lower ho4 (below_size (by repeat (first | (with_reducible first | exact HB.out | apply below_alloc | apply pw_below_drewN | apply below_drew1 | refine below_set ?_ GE20.out | refine below_set ?_ GE21.out) | exact HB.out)))); have n1_ := Aside0.mk (blk_below (g := gc1_0) (o := .cells #[.int .i64 a1_0_0] 3 (0, 0)) (bk_ BK20.out) hb); have n2_ := Aside0.mk (blk_below (g := gc1_1) (o := .cells #[.int .i64 a1_1_0] 3 (0, 0)) (bk_ BK21.out) hb); have n3_ := Aside0.mk (below_step (by repeat (first | (with_reducible first | exact HB.out | apply below_alloc | apply pw_below_drewN | apply below_drew1 | refine below_set ?_ GE20.out | refine below_set ?_ GE21.out) | exact HB.out)) hb); clear BK20; clear BK21; clear HB; have HO260 := n0_; have BK20 := n1_; have BK21 := n2_; have HB := n3_; clear n0_ n1_ n2_ n3_; clear hb ho4))
 go_loopg [5, 13] k (fun kq v5 v13 w' => ∃ (x5_1 : List (S52)) (x13_1 : Int), v13 = .int .i64 x13_1 ∧ Aside0 (impl_renamed_s2.l0 kq x5_1 l0 (l0.length : Int) x13_1 a1_0_0 a1_1_0 = some r) ∧ Aside0 (kq ≤ k) ∧ Aside0 (Kd.R k52 52 w' w.heap.size (fun _ => True) v5 x5_1) ∧ Aside0 (w'.heap[gc1_0]? = some (.cells #[.int .i64 a1_0_0] 3 (0, 0))) ∧ Aside0 (w'.heap[gc1_1]? = some (.cells #[.int .i64 a1_1_0] 3 (0, 0))) ∧ Aside0 (Below w.heap.size w w'))
 case atStart => exact ⟨(y258), (0), (by first | rfl | (simp; done) | (simp [*]; done)), H', ⟨Nat.le_refl _⟩, ⟨ra_ HO260.out⟩, ⟨bk_ BK20.out⟩, ⟨bk_ BK21.out⟩, ⟨by repeat (first | (with_reducible first | exact HB.out | apply below_alloc | apply pw_below_drewN | apply below_drew1 | refine below_set ?_ GE20.out | refine below_set ?_ GE21.out) | exact HB.out)⟩⟩
 case round =>
  clear H'
  try clear c1
  try clear p2
  try clear HO_5
  obtain ⟨x5_1, x13_1, rfl, HA, HK1, HO_5, BK20, BK21, HB⟩ := hrel
  cases gk with
  | zero => exact absurd HA.out (by simp [impl_renamed_s2.l0])
  | succ k1 =>
   have H := HA.out
   clear HA
   simp only [impl_renamed_s2.l0] at H
   by_cases c5 : x13_1 < (l0.length : Int)
   ·rw [if_pos c5] at H
    have c5b0 : decide (x13_1 < (l0.length : Int)) = true := decide_eq_true c5
    clear c5
    by_cases c6 : 0 ≤ x13_1
    ·rw [if_pos c6] at H
     have c6b0 : decide (0 ≤ x13_1) = true := decide_eq_true c6
     clear c6
     by_cases c7 : x13_1 < (l0.length : Int)
     ·rw [if_pos c7] at H
      have c7b0 : decide (x13_1 < (l0.length : Int)) = true := decide_eq_true c7
      clear c7
      replace H := Option.bind_eq_some_iff.mp H
      obtain ⟨t263, A80, H⟩ := H
      replace H : ((impl_turned_1_s3.f ((rd_T52 l0 x13_1).f1) a1_0_0 a1_1_0).bind fun t264 => (if x5_1.length < 8796093022208 then (impl_renamed_s2.l0 k1 (x5_1 ++ [(⟨mn t263 t264, mx t263 t264⟩ : S52)]) l0 (l0.length : Int) (wrap64 (x13_1 + 1)) a1_0_0 a1_1_0) else (none))) = some r := H
      have A8 := Aside0.mk A80
      clear A80
      replace H := Option.bind_eq_some_iff.mp H
      obtain ⟨t264, A90, H⟩ := H
      replace H : (if x5_1.length < 8796093022208 then (impl_renamed_s2.l0 k1 (x5_1 ++ [(⟨mn t263 t264, mx t263 t264⟩ : S52)]) l0 (l0.length : Int) (wrap64 (x13_1 + 1)) a1_0_0 a1_1_0) else (none)) = some r := H
      have A9 := Aside0.mk A90
      clear A90
      obtain ⟨ji10, hji10⟩ : ∃ j_ : Int, (mn t263 t264) = j_ := ⟨_, rfl⟩
      replace H : (if x5_1.length < 8796093022208 then (impl_renamed_s2.l0 k1 (x5_1 ++ [(⟨ji10, mx t263 t264⟩ : S52)]) l0 (l0.length : Int) (wrap64 (x13_1 + 1)) a1_0_0 a1_1_0) else (none)) = some r := by first | (rw [hji10] at H; exact H) | (simp only [hji10] at H ⊢; exact H)
      (try rw [hji10] at A8)
      (try rw [hji10] at A9)
      have hji10_ : (if t264 < t263 then t264 else t263) = ji10 := hji10
      obtain ⟨ji11, hji11⟩ : ∃ j_ : Int, (mx t263 t264) = j_ := ⟨_, rfl⟩
      replace H : (if x5_1.length < 8796093022208 then (impl_renamed_s2.l0 k1 (x5_1 ++ [(⟨ji10, ji11⟩ : S52)]) l0 (l0.length : Int) (wrap64 (x13_1 + 1)) a1_0_0 a1_1_0) else (none)) = some r := by first | (rw [hji11] at H; exact H) | (simp only [hji11] at H ⊢; exact H)
      (try rw [hji11] at A8)
      (try rw [hji11] at A9)
      have hji11_ : (if t263 < t264 then t264 else t263) = ji11 := hji11
      by_cases c12 : x5_1.length < 8796093022208
      ·rw [if_pos c12] at H
       have LMc12 := Aside0.mk c12
       clear c12
       obtain ⟨y265, hy265⟩ : ∃ y_ : List (S52), y_ = (x5_1 ++ [(⟨ji10, ji11⟩ : S52)]) := ⟨_, rfl⟩
       replace H : (impl_renamed_s2.l0 k1 y265 l0 (l0.length : Int) (wrap64 (x13_1 + 1)) a1_0_0 a1_1_0) = some r := by first | (rw [hy265]; with_reducible exact H) | (have H2_ := (Option.bind_some _ _).symm.trans H; rw [hy265]; with_reducible exact H2_) | (have H2_ := (Option.bind_some _ _).symm.trans H; with_reducible exact H2_) | with_reducible exact H | (rw [hy265]; exact H) | exact H
       have Ny265 := Aside0.mk hy265
       clear hy265
       have H' := Aside0.mk H
       clear H
       have p261 : 0 ≤ (x13_1 : Int) := odt_
       have q261 : x13_1 < (l0.length : Int) := odt_
       obtain ⟨ad261, e261, hx261_0, hx261_1⟩ := at_T52 HR0.out x13_1 p261 q261
       cases e261
       (first | replace hx261_0 := (HB.out.cell (World.block_lt_of_cell? w _ hx261_0)).trans hx261_0 | skip)
       (first | replace hx261_1 := (HB.out.cell (World.block_lt_of_cell? w _ hx261_1)).trans hx261_1 | skip)
       replace p261 := eq_true p261
       replace q261 := eq_true q261
       try go_wp2_with (first | ((with_reducible refine gate_dst (N := 7) rfl ?_); refine box_event ?hg (N := 7) ?hd (cs := #[.int .i64 0, .int .i64 0]) (t := 52) ?hr ?_; (case hd => rfl); (case hg => rfl); (case hr => first | (go_simp; done) | (go_simp; rfl)); intro gb262 hg w13 hbox hb; have n0_ := Aside0.mk (Kd.R_below (Kd.R_elderB (ra_ HO_5.out) gb262 (Nat.le_of_eq hg.symm)) hb); have n1_ := Aside0.mk (blk_below (g := gc1_0) (o := .cells #[.int .i64 a1_0_0] 3 (0, 0)) (bk_ BK20.out) hb); have n2_ := Aside0.mk (blk_below (g := gc1_1) (o := .cells #[.int .i64 a1_1_0] 3 (0, 0)) (bk_ BK21.out) hb); have n3_ := Aside0.mk (below_step (by repeat (first | (with_reducible first | exact HB.out | apply below_alloc | apply pw_below_drewN | apply below_drew1 | refine below_set ?_ GE20.out | refine below_set ?_ GE21.out) | exact HB.out)) hb); have n4_ := Aside0.mk (hbox); have n5_ := Aside0.mk ((by rw [hg]; exact (below_size (by repeat (first | (with_reducible first | exact HB.out | apply below_alloc | apply pw_below_drewN | apply below_drew1 | refine below_set ?_ GE20.out | refine below_set ?_ GE21.out) | exact HB.out))) : w.heap.size ≤ gb262)); have n6_ := Aside0.mk ((by rw [hg]; exact (below_size (by repeat (first | (with_reducible first | exact HB.out | apply below_alloc | apply pw_below_drewN | apply below_drew1 | refine below_set ?_ GE20.out | refine below_set ?_ GE21.out) | exact HB.out))) : w.heap.size ≤ gb262)); have n7_ := Aside0.mk ((by rw [hg]; exact Nat.ne_of_lt (blk_lt (g := gc1_0) (o := .cells #[.int .i64 a1_0_0] 3 (0, 0)) (bk_ BK20.out)) : gc1_0 ≠ gb262)); have n8_ := Aside0.mk ((by rw [hg]; exact Nat.ne_of_gt (blk_lt (g := gc1_0) (o := .cells #[.int .i64 a1_0_0] 3 (0, 0)) (bk_ BK20.out)) : gb262 ≠ gc1_0)); have n9_ := Aside0.mk ((by rw [hg]; exact Nat.ne_of_lt (blk_lt (g := gc1_1) (o := .cells #[.int .i64 a1_1_0] 3 (0, 0)) (bk_ BK21.out)) : gc1_1 ≠ gb262)); have n10_ := Aside0.mk ((by rw [hg]; exact Nat.ne_of_gt (blk_lt (g := gc1_1) (o := .cells #[.int .i64 a1_1_0] 3 (0, 0)) (bk_ BK21.out)) : gb262 ≠ gc1_1)); clear HO_5; clear BK20; clear BK21; clear HB; have HO_5 := n0_; have BK20 := n1_; have BK21 := n2_; have HB := n3_; have BK262 := n4_; have GW262 := n5_; have GE262 := n6_; have NB20_262 := n7_; have NB262_20 := n8_; have NB21_262 := n9_; have NB262_21 := n10_; clear n0_ n1_ n2_ n3_ n4_ n5_ n6_ n7_ n8_ n9_ n10_; clear hb hbox hg; have hnb14 := NB262_20.out; have hnc14 := NB20_262.out; have hnb15 := NB262_21.out; have hnc15 := NB21_262.out; have hcz16_0 : w13.cell? ⟨gb262, 0, none⟩ = some (.int .i64 0) := (blk_cell BK262.out 0).trans rfl; have hcz16_1 : w13.cell? ⟨gb262, 1, none⟩ = some (.int .i64 0) := (blk_cell BK262.out 1).trans rfl; have hfz16_0 := blk_frozen BK262.out 0; have hfz16_1 := blk_frozen BK262.out 1))
       have n0_ : Aside0 (Kd.R k52 52 ((w13.setCell ⟨gb262, 0, none⟩ (.int .i64 ((rd_T52 l0 x13_1).f0))).setCell ⟨gb262, 1, none⟩ (.int .i64 ((rd_T52 l0 x13_1).f1))) w.heap.size (fun k_ => k_ ≠ gb262) u5 x5_1) := ⟨by (with_reducible repeat (first | apply Kd.R_alloc | apply Kd.R_drewN | apply Kd.R_drew)); exact Kd.R_mono (Kd.R_far (p := ⟨gb262, 1, none⟩) (Kd.R_far (p := ⟨gb262, 0, none⟩) (Kd.R_mono HO_5.out (fun k_ hk => (⟨hk, hk.2⟩ : _ ∧ k_ ≠ gb262))) (fun _ hk => hk.2) (.int .i64 ((rd_T52 l0 x13_1).f0))) (fun _ hk => hk.2) (.int .i64 ((rd_T52 l0 x13_1).f1))) (fun _ hk => hk.1.2)⟩
       have n1_ : Aside0 (((w13.setCell ⟨gb262, 0, none⟩ (.int .i64 ((rd_T52 l0 x13_1).f0))).setCell ⟨gb262, 1, none⟩ (.int .i64 ((rd_T52 l0 x13_1).f1))).heap[gc1_0]? = some (.cells #[.int .i64 a1_0_0] 3 (0, 0))) := ⟨by (with_reducible repeat (first | refine blk_drewN ?_ _ | refine blk_drew ?_ | refine blk_alloc ?_ _)); refine blk_far ?_ NB20_262.out _; (with_reducible repeat (first | refine blk_drewN ?_ _ | refine blk_drew ?_ | refine blk_alloc ?_ _)); refine blk_far ?_ NB20_262.out _; (with_reducible repeat (first | refine blk_drewN ?_ _ | refine blk_drew ?_ | refine blk_alloc ?_ _)); exact BK20.out⟩
       have n2_ : Aside0 (((w13.setCell ⟨gb262, 0, none⟩ (.int .i64 ((rd_T52 l0 x13_1).f0))).setCell ⟨gb262, 1, none⟩ (.int .i64 ((rd_T52 l0 x13_1).f1))).heap[gc1_1]? = some (.cells #[.int .i64 a1_1_0] 3 (0, 0))) := ⟨by (with_reducible repeat (first | refine blk_drewN ?_ _ | refine blk_drew ?_ | refine blk_alloc ?_ _)); refine blk_far ?_ NB21_262.out _; (with_reducible repeat (first | refine blk_drewN ?_ _ | refine blk_drew ?_ | refine blk_alloc ?_ _)); refine blk_far ?_ NB21_262.out _; (with_reducible repeat (first | refine blk_drewN ?_ _ | refine blk_drew ?_ | refine blk_alloc ?_ _)); exact BK21.out⟩
       have n3_ : Aside0 (((w13.setCell ⟨gb262, 0, none⟩ (.int .i64 ((rd_T52 l0 x13_1).f0))).setCell ⟨gb262, 1, none⟩ (.int .i64 ((rd_T52 l0 x13_1).f1))).heap[gb262]? = some (.cells #[.int .i64 ((rd_T52 l0 x13_1).f0), .int .i64 ((rd_T52 l0 x13_1).f1)] 52 (0, 0))) := ⟨by (with_reducible repeat (first | refine blk_drewN ?_ _ | refine blk_drew ?_ | refine blk_alloc ?_ _)); refine blk_put (cs := #[.int .i64 ((rd_T52 l0 x13_1).f0), .int .i64 0]) ?_ 1 _ rfl; (with_reducible repeat (first | refine blk_drewN ?_ _ | refine blk_drew ?_ | refine blk_alloc ?_ _)); refine blk_put (cs := #[.int .i64 0, .int .i64 0]) ?_ 0 _ rfl; (with_reducible repeat (first | refine blk_drewN ?_ _ | refine blk_drew ?_ | refine blk_alloc ?_ _)); exact BK262.out⟩
       have n4_ : Aside0 (Below w.heap.size w ((w13.setCell ⟨gb262, 0, none⟩ (.int .i64 ((rd_T52 l0 x13_1).f0))).setCell ⟨gb262, 1, none⟩ (.int .i64 ((rd_T52 l0 x13_1).f1)))) := ⟨by repeat (first | (with_reducible first | exact HB.out | apply below_alloc | apply pw_below_drewN | apply below_drew1 | refine below_set ?_ GE20.out | refine below_set ?_ GE21.out | refine below_set ?_ GE262.out) | exact HB.out)⟩
       (try clear HO_5)
       (try clear BK20)
       (try clear BK21)
       (try clear BK262)
       (try clear HB)
       generalize ((w13.setCell ⟨gb262, 0, none⟩ (.int .i64 ((rd_T52 l0 x13_1).f0))).setCell ⟨gb262, 1, none⟩ (.int .i64 ((rd_T52 l0 x13_1).f1))) = w17 at n0_ n1_ n2_ n3_ n4_ ⊢
       have HO_5 := n0_
       have BK20 := n1_
       have BK21 := n2_
       have BK262 := n3_
       have HB := n4_
       clear n0_ n1_ n2_ n3_ n4_
       have n0_ := Aside0.mk (Kd.R_drew HO_5.out)
       have n1_ := Aside0.mk (blk_drew BK20.out)
       have n2_ := Aside0.mk (blk_drew BK21.out)
       have n3_ := Aside0.mk (blk_drew BK262.out)
       have n4_ := Aside0.mk (below_drew1 HB.out)
       clear HO_5
       clear BK20
       clear BK21
       clear BK262
       clear HB
       have HO_5 := n0_
       have BK20 := n1_
       have BK21 := n2_
       have BK262 := n3_
       have HB := n4_
       clear n0_ n1_ n2_ n3_ n4_
       refine start_ (n := 10) (S := fun w' => w'.cell? ⟨gb262, 0, none⟩ = some (.int .i64 ((rd_T52 l0 x13_1).f0)) ∧ w'.cell? ⟨gb262, 1, none⟩ = some (.int .i64 ((rd_T52 l0 x13_1).f1))) (ds := []) #[false, false, false, false, false, false, false, false, false, false] (by kernel_rfl) rfl rfl ⟨(blk_cell BK262.out 0).trans rfl, (blk_cell BK262.out 1).trans rfl⟩ (fun hHeld => ?_); refine with_tabW impl_renamed_s2.tab5 impl_renamed_s2.bits5 (fun HT_ HW_ => ?_)
       generalize w17.drew = w18 at HO_5 BK20 BK21 BK262 HB hHeld ⊢
       refine pure_ (i := 0) (N := some 17) (v := ?_) (a' := ?_) #[true, false, false, false, false, false, false, false, false, false] rfl rfl (any_of HT_.out (by kernel_rfl)) (fun _ _ _ h => h) (Or.inl ⟨by rfl, ?_⟩) ?_ ?_
       rotate_left
       ·exact gw_
       rotate_left
       ·exact ap_
       refine pure_ (i := 1) (N := some 18) (v := ?_) (a' := ?_) #[true, true, false, false, false, false, false, false, false, false] rfl rfl (any_of HT_.out (by kernel_rfl)) (fun _ _ _ h => h) (Or.inl ⟨by rfl, ?_⟩) ?_ ?_
       rotate_left
       ·exact gw_
       rotate_left
       ·exact ap_
       refine pure_ (i := 4) (N := some 21) (v := ?_) (a' := ?_) #[true, true, false, false, true, false, false, false, false, false] rfl rfl (any_of HT_.out (by kernel_rfl)) (fun _ _ _ h => h) (Or.inl ⟨by rfl, ?_⟩) ?_ ?_
       rotate_left
       ·exact gw_
       rotate_left
       ·exact ap_
       refine pure_ (i := 5) (N := some 22) (v := ?_) (a' := ?_) #[true, true, false, false, true, true, false, false, false, false] rfl rfl (any_of HT_.out (by kernel_rfl)) (fun _ _ _ h => h) (Or.inl ⟨by rfl, ?_⟩) ?_ ?_
       rotate_left
       ·exact gw_
       rotate_left
       ·exact ap_
       refine take_ (i := 2) (N := some 19) (v := ?_) (a' := ?_) #[true, true, true, false, true, true, false, false, false, false] rfl rfl (take_ofW HT_.out HW_.out (by kernel_rfl)) (fun _ _ _ h => h) (Or.inl ⟨by rfl, ?_⟩) hHeld ?_ ?_
       rotate_left
       ·rintro w' ⟨s0, s1⟩
        go_simp
        with_reducible rfl
       rotate_left
       ·exact ap_
       refine take_ (i := 6) (N := some 23) (v := ?_) (a' := ?_) #[true, true, true, false, true, true, true, false, false, false] rfl rfl (take_ofW HT_.out HW_.out (by kernel_rfl)) (fun _ _ _ h => h) (Or.inl ⟨by rfl, ?_⟩) hHeld ?_ ?_
       rotate_left
       ·rintro w' ⟨s0, s1⟩
        go_simp
        with_reducible rfl
       rotate_left
       ·exact ap_
       refine one_ (i := 3) (N := some 20) #[true, true, true, true, true, true, true, false, false, false] rfl rfl (one_of HT_.out (by kernel_rfl)) (by decide) (fun K hK => ?_)
       refine goesV_ (hc := by rfl) Try.func97 (by kernel_rfl) rfl #[.int .i64 ((rd_T52 l0 x13_1).f0), .pointer (some ⟨gc1_0, 0, none⟩), .pointer (some ⟨gc1_1, 0, none⟩)] (by rfl) rfl rfl amp_ ?_
       with_reducible refine (impl_turned_1_s3.calls ((rd_T52 l0 x13_1).f0) gc1_0 a1_0_0 gc1_1 a1_1_0 t263 _ ?side1 ?side2 A8.out).mono ?_
       (case side1 => (with_reducible repeat (first | refine blk_drewN ?_ _ | refine blk_drew ?_ | refine blk_alloc ?_ _)); exact BK20.out)
       (case side2 => (with_reducible repeat (first | refine blk_drewN ?_ _ | refine blk_drew ?_ | refine blk_alloc ?_ _)); exact BK21.out)
       rintro e w19 ⟨rfl, hb⟩
       refine ⟨_, rfl, ?_⟩
       (try replace hb := Drawn0.below hb)
       have n0_ := Aside0.mk (Kd.R_below (ra_ HO_5.out) hb)
       have n1_ := Aside0.mk (blk_below (g := gc1_0) (o := .cells #[.int .i64 a1_0_0] 3 (0, 0)) (bk_ BK20.out) hb)
       have n2_ := Aside0.mk (blk_below (g := gc1_1) (o := .cells #[.int .i64 a1_1_0] 3 (0, 0)) (bk_ BK21.out) hb)
       have n3_ := Aside0.mk (blk_below (g := gb262) (o := .cells #[.int .i64 ((rd_T52 l0 x13_1).f0), .int .i64 ((rd_T52 l0 x13_1).f1)] 52 (0, 0)) (bk_ BK262.out) hb)
       have n4_ := Aside0.mk (below_step (by repeat (first | (with_reducible first | exact HB.out | apply below_alloc | apply pw_below_drewN | apply below_drew1 | refine below_set ?_ GE20.out | refine below_set ?_ GE21.out | refine below_set ?_ GE262.out) | exact HB.out)) hb)
       clear HO_5
       clear BK20
       clear BK21
       clear BK262
       clear HB
       have HO_5 := n0_
       have BK20 := n1_
       have BK21 := n2_
       have BK262 := n3_
       have HB := n4_
       clear n0_ n1_ n2_ n3_ n4_
       (try clear hb)
       (try clear hb2)
       (try clear hk)
       (try clear hi)
       refine hK.out _ _ ⟨(blk_cell BK262.out 0).trans rfl, (blk_cell BK262.out 1).trans rfl⟩ (fun hHeld => ?_)
       clear hK K
       refine norm_ (a' := ?_) ?_ ?_
       rotate_left
       ·show Act.put _ (some 20) _ = _
        simp only [Act.put, List.setIfInBounds_toArray, List.set_cons_zero, List.set_cons_succ, i64_w, i32_w]
        rfl
       refine one_ (i := 7) (N := some 24) #[true, true, true, true, true, true, true, true, false, false] rfl rfl (one_of HT_.out (by kernel_rfl)) (by decide) (fun K hK => ?_)
       refine goesV_ (hc := by rfl) Try.func97 (by kernel_rfl) rfl #[.int .i64 ((rd_T52 l0 x13_1).f1), .pointer (some ⟨gc1_0, 0, none⟩), .pointer (some ⟨gc1_1, 0, none⟩)] (by rfl) rfl rfl amp_ ?_
       with_reducible refine (impl_turned_1_s3.calls ((rd_T52 l0 x13_1).f1) gc1_0 a1_0_0 gc1_1 a1_1_0 t264 _ ?side1 ?side2 A9.out).mono ?_
       (case side1 => (with_reducible repeat (first | refine blk_drewN ?_ _ | refine blk_drew ?_ | refine blk_alloc ?_ _)); exact BK20.out)
       (case side2 => (with_reducible repeat (first | refine blk_drewN ?_ _ | refine blk_drew ?_ | refine blk_alloc ?_ _)); exact BK21.out)
       rintro e w20 ⟨rfl, hb⟩
       refine ⟨_, rfl, ?_⟩
       (try replace hb := Drawn0.below hb)
       have n0_ := Aside0.mk (Kd.R_below (ra_ HO_5.out) hb)
       have n1_ := Aside0.mk (blk_below (g := gc1_0) (o := .cells #[.int .i64 a1_0_0] 3 (0, 0)) (bk_ BK20.out) hb)
       have n2_ := Aside0.mk (blk_below (g := gc1_1) (o := .cells #[.int .i64 a1_1_0] 3 (0, 0)) (bk_ BK21.out) hb)
       have n3_ := Aside0.mk (blk_below (g := gb262) (o := .cells #[.int .i64 ((rd_T52 l0 x13_1).f0), .int .i64 ((rd_T52 l0 x13_1).f1)] 52 (0, 0)) (bk_ BK262.out) hb)
       have n4_ := Aside0.mk (below_step (by repeat (first | (with_reducible first | exact HB.out | apply below_alloc | apply pw_below_drewN | apply below_drew1 | refine below_set ?_ GE20.out | refine below_set ?_ GE21.out | refine below_set ?_ GE262.out) | exact HB.out)) hb)
       clear HO_5
       clear BK20
       clear BK21
       clear BK262
       clear HB
       have HO_5 := n0_
       have BK20 := n1_
       have BK21 := n2_
       have BK262 := n3_
       have HB := n4_
       clear n0_ n1_ n2_ n3_ n4_
       (try clear hb)
       (try clear hb2)
       (try clear hk)
       (try clear hi)
       refine hK.out _ _ ⟨(blk_cell BK262.out 0).trans rfl, (blk_cell BK262.out 1).trans rfl⟩ (fun hHeld => ?_)
       clear hK K
       refine norm_ (a' := ?_) ?_ ?_
       rotate_left
       ·show Act.put _ (some 24) _ = _
        simp only [Act.put, List.setIfInBounds_toArray, List.set_cons_zero, List.set_cons_succ, i64_w, i32_w]
        rfl
       refine pure_ (i := 8) (N := some 8) (v := ?_) (a' := ?_) #[true, true, true, true, true, true, true, true, true, false] rfl rfl (any_of HT_.out (by kernel_rfl)) (fun _ _ _ h => h) (Or.inl ⟨by rfl, ?_⟩) ?_ ?_
       rotate_left
       ·exact gw_
       rotate_left
       ·exact ap_
       refine pure_ (i := 9) (N := some 9) (v := ?_) (a' := ?_) #[true, true, true, true, true, true, true, true, true, true] rfl rfl (any_of HT_.out (by kernel_rfl)) (fun _ _ _ h => h) (Or.inl ⟨by rfl, ?_⟩) ?_ ?_
       rotate_left
       ·exact gw_
       rotate_left
       ·exact ap_
       refine done_ (done_of HT_.out (by kernel_rfl)) ?_
       try go_wp2_with (first | ((with_reducible refine gate_builtin (b := .append) (xs := #[.tmp 25, .tmp 33]) rfl ?_); at_builtin; refine Kd.R_append k52 (w0 := w) w.heap.size rfl (.tmp 25) (.tmp 33) 41 52 (.agg #[(.int .i64 0), (.int .i64 0)]) 16 rfl Try.underlying41 info52 rfl (by decide) (by omega) u5 x5_1 (⟨ji10, ji11⟩ : S52) [.int .i64 ji10, .int .i64 ji11] (fun k_ => k_ ≠ gb262) (fun _ => False) rfl rfl ?aP (fun _ hk => hk.elim) ?aF ?aO ?aB ?aS ?aL ?_; (case aP => exact k52_mkM _ _ _ (⟨ji10, ji11⟩ : S52)); (case aB => exact (by repeat (first | (with_reducible first | exact HB.out | apply below_alloc | apply pw_below_drewN | apply below_drew1 | refine below_set ?_ GE20.out | refine below_set ?_ GE21.out | refine below_set ?_ GE262.out) | exact HB.out))); (case aF => exact (fun k_ hk => Kd.freshB (g := gb262) (o := .cells #[.int .i64 ((rd_T52 l0 x13_1).f0), .int .i64 ((rd_T52 l0 x13_1).f1)] 52 (0, 0)) (bk_ BK262.out) k_ hk)); (case aO => exact (ra_ HO_5.out)); (case aS => exact (below_size (by repeat (first | (with_reducible first | exact HB.out | apply below_alloc | apply pw_below_drewN | apply below_drew1 | refine below_set ?_ GE20.out | refine below_set ?_ GE21.out | refine below_set ?_ GE262.out) | exact HB.out)))); (case aL => have := LMc12.out; omega); intro v266 w21 ho hb hg hat; rw [← Ny265.out] at ho; have n0_ := Aside0.mk (blk_grown (g := gc1_0) (o := .cells #[.int .i64 a1_0_0] 3 (0, 0)) (bk_ BK20.out) hg (Kd.R_ne HO_5.out BK20.out (by decide))); have n1_ := Aside0.mk (blk_grown (g := gc1_1) (o := .cells #[.int .i64 a1_1_0] 3 (0, 0)) (bk_ BK21.out) hg (Kd.R_ne HO_5.out BK21.out (by decide))); have n2_ := Aside0.mk (blk_grown (g := gb262) (o := .cells #[.int .i64 ((rd_T52 l0 x13_1).f0), .int .i64 ((rd_T52 l0 x13_1).f1)] 52 (0, 0)) (bk_ BK262.out) hg (Kd.R_away HO_5.out (fun _ hk => hk))); have n3_ := Aside0.mk (hb); have n4_ := Aside0.mk (ho); clear BK20; clear BK21; clear BK262; clear HB; clear HO_5; have BK20 := n0_; have BK21 := n1_; have BK262 := n2_; have HB := n3_; have HO267 := n4_; clear n0_ n1_ n2_ n3_ n4_; clear ho hb hg hat))
       go_roundg k1
       case measure => have := HK1.out; omega
       case rel => exact ⟨(y265), (wrap64 (x13_1 + 1)), (by first | rfl | (simp; done) | (simp [*]; done)), H', ⟨by have := HK1.out; omega⟩, ⟨by (with_reducible repeat (first | apply Kd.R_alloc | apply Kd.R_drewN | apply Kd.R_drew)); exact Kd.R_mono HO267.out (fun _ hk => trivial)⟩, ⟨bk_ BK20.out⟩, ⟨bk_ BK21.out⟩, ⟨by repeat (first | (with_reducible first | exact HB.out | apply below_alloc | apply pw_below_drewN | apply below_drew1 | refine below_set ?_ GE20.out | refine below_set ?_ GE21.out | refine below_set ?_ GE262.out) | exact HB.out)⟩⟩
      ·rw [if_neg c12] at H
       exact absurd H (by simp)
     ·rw [if_neg c7] at H
      exact absurd H (by simp)
    ·rw [if_neg c6] at H
     exact absurd H (by simp)
   ·rw [if_neg c5] at H
    have c5b0 : decide (x13_1 < (l0.length : Int)) = false := decide_eq_false c5
    clear c5
    replace H := Option.bind_eq_some_iff.mp H
    obtain ⟨t268, A220, H⟩ := H
    replace H : (some t268) = some r := H
    have A22 := Aside0.mk A220
    clear A220
    obtain rfl := Option.some.inj H
    obtain ⟨Ao23, co23, eo23⟩ := Kd.R_slice HO_5.out
    subst eo23
    go_wp2_with (first | ((with_reducible refine gate_callee (f := 89) rfl ?_); refine goesL_ (some 37) rfl rfl Try.func89 (by kernel_rfl) rfl #[.slice Ao23 x5_1.length co23, .func (.func 74) #[] #[]] rfl amp_ ?_; (with_reducible refine (impl_Diagonal_89_s4.calls k1 (fun k_ => some k_ = (.slice Ao23 x5_1.length co23 : Value).ownBlock) (.slice Ao23 x5_1.length co23) x5_1  t268 w _ ?side1 ?side2 A22.out).mono ?_); (case side1 => repeat (first | (with_reducible first | exact HB.out | apply below_alloc | apply pw_below_drewN | apply below_drew1 | refine below_set ?_ GE20.out | refine below_set ?_ GE21.out) | exact HB.out)); (case side2 => exact Kd.R_tight rfl HO_5.out); rintro e w24 ⟨rfl, hy0, hb, hkp⟩; refine ⟨_, rfl, ?_⟩; have n0_ := Aside0.mk (Kd.R_reok rfl hy0 (fun k_ e_ => HO_5.out.1 k_ e_)); have n1_ := Aside0.mk (blk_kept (bk_ BK20.out) hkp (fun hs_ => (fun e_ => (Kd.R_ne HO_5.out BK20.out (by decide)) e_) hs_)); have n2_ := Aside0.mk (blk_kept (bk_ BK21.out) hkp (fun hs_ => (fun e_ => (Kd.R_ne HO_5.out BK21.out (by decide)) e_) hs_)); have n3_ := Aside0.mk (hb); clear HO_5; clear BK20; clear BK21; clear HB; have HO_5 := n0_; have BK20 := n1_; have BK21 := n2_; have HB := n3_; clear n0_ n1_ n2_ n3_; (try clear hb); (try clear hkp); (try clear hy0)))
    go_ret
    exact ⟨_, by first | rfl | (simp [errW_none, errW_some] <;> rfl) | (simp [*, errW_none, errW_some] <;> rfl), by (with_reducible repeat (first | apply Kd.R_alloc | apply Kd.R_drewN | apply Kd.R_drew)); exact HO_5.out, by repeat (first | (with_reducible first | exact HB.out | apply below_alloc | apply pw_below_drewN | apply below_drew1 | refine below_set ?_ GE20.out | refine below_set ?_ GE21.out) | exact HB.out)⟩

/-! ### impl_turned: function 70 -/
def impl_turned.f (k : Nat) (a0 : Int) (l1 : List (S52)) (a2 : Int) : Option ((List (S52))) := (impl_renamed_s2.f k l1 a2 a0).bind fun t271 => (some t271)
theorem impl_turned.mono : ∀ a0 a1 a2 k, LeO (impl_turned.f k a0 a1 a2) (impl_turned.f (k + 1) a0 a1 a2) := by
 intro a0 a1 a2 k
 unfold impl_turned.f
 repeat' first
   | (with_reducible exact impl_renamed_s2.mono _ _ _ _)
   | (with_reducible exact LeO.refl _)
   | (with_reducible exact LeO.none _)
   | (with_reducible refine LeO.ite ?_ ?_)
   | (with_reducible refine LeO.bind ?_ (fun _ => ?_))
   | exact impl_renamed_s2.mono _ _ _ _
   | exact LeO.none _
   | refine LeO.ite ?_ ?_
   | refine LeO.bind ?_ (fun _ => ?_)
set_option maxHeartbeats 8000000 in
set_option maxRecDepth 100000 in
theorem impl_turned.calls (k : Nat) (a0 : Int) (A1 : Option Addr) (c1 : Nat) (l1 : List (S52)) (a2 : Int) (r : List (S52)) (w : World) (hr1 : Kd.C k52 w A1 l1.length l1) (hc1 : l1.length ≤ c1) (h : impl_turned.f k a0 l1 a2 = some r) :
  Calls Try.prog 70 #[.int .i64 a0, .slice A1 l1.length c1, .int .i64 a2] w fun e w' => ∃ v0_ : Value, e = .returned (v0_) ∧ Kd.R k52 52 w' w.heap.size (fun _ => True) v0_ r ∧ Below w.heap.size w w' := by
 have HR1 := Aside0.mk hr1
 have HC1 := Aside0.mk hc1
 clear hr1 hc1
 have HB := Aside0.mk (Below.refl w.heap.size w)
 have H : ((impl_renamed_s2.f k l1 a2 a0).bind fun t271 => (some t271)) = some r := h
 clear h
 replace H := Option.bind_eq_some_iff.mp H
 obtain ⟨t271, A40, H⟩ := H
 replace H : (some t271) = some r := H
 have A4 := Aside0.mk A40
 clear A40
 obtain rfl := Option.some.inj H
 go_enter Try.func70, Try.ntmps70
 go_wp2_with (first | ((with_reducible refine gate_dst (N := 3) rfl ?_); refine box_event ?hg (N := 3) ?hd (cs := #[.int .i64 a0]) (t := 3) ?hr ?_; (case hd => rfl); (case hg => rfl); (case hr => first | (go_simp; done) | (go_simp; rfl)); intro gb269 hg w5 hbox hb; have n0_ := Aside0.mk (below_step blw_ hb); have n1_ := Aside0.mk (hbox); have n2_ := Aside0.mk ((by rw [hg]; exact (below_size blw_) : w.heap.size ≤ gb269)); have n3_ := Aside0.mk ((by rw [hg]; exact (below_size blw_) : w.heap.size ≤ gb269)); clear HB; have HB := n0_; have BK269 := n1_; have GW269 := n2_; have GE269 := n3_; clear n0_ n1_ n2_ n3_; clear hb hbox hg) | ((with_reducible refine gate_dst (N := 5) rfl ?_); refine box_event ?hg (N := 5) ?hd (cs := #[.int .i64 a2]) (t := 3) ?hr ?_; (case hd => rfl); (case hg => rfl); (case hr => first | (go_simp; done) | (go_simp; rfl)); intro gb270 hg w6 hbox hb; have n0_ := Aside0.mk (blk_below (g := gb269) (o := .cells #[.int .i64 a0] 3 (0, 0)) (bk_ BK269.out) hb); have n1_ := Aside0.mk (below_step (by repeat (first | (with_reducible first | exact HB.out | apply below_alloc | apply pw_below_drewN | apply below_drew1 | refine below_set ?_ GE269.out) | exact HB.out)) hb); have n2_ := Aside0.mk (hbox); have n3_ := Aside0.mk ((by rw [hg]; exact (below_size (by repeat (first | (with_reducible first | exact HB.out | apply below_alloc | apply pw_below_drewN | apply below_drew1 | refine below_set ?_ GE269.out) | exact HB.out))) : w.heap.size ≤ gb270)); have n4_ := Aside0.mk ((by rw [hg]; exact (below_size (by repeat (first | (with_reducible first | exact HB.out | apply below_alloc | apply pw_below_drewN | apply below_drew1 | refine below_set ?_ GE269.out) | exact HB.out))) : w.heap.size ≤ gb270)); have n5_ := Aside0.mk ((by rw [hg]; exact Nat.ne_of_lt (blk_lt (g := gb269) (o := .cells #[.int .i64 a0] 3 (0, 0)) (bk_ BK269.out)) : gb269 ≠ gb270)); have n6_ := Aside0.mk ((by rw [hg]; exact Nat.ne_of_gt (blk_lt (g := gb269) (o := .cells #[.int .i64 a0] 3 (0, 0)) (bk_ BK269.out)) : gb270 ≠ gb269)); clear BK269; clear HB; have BK269 := n0_; have HB := n1_; have BK270 := n2_; have GW270 := n3_; have GE270 := n4_; have NB269_270 := n5_; have NB270_269 := n6_; clear n0_ n1_ n2_ n3_ n4_ n5_ n6_; clear hb hbox hg) | ((with_reducible refine gate_callee (f := 71) rfl ?_); refine goesL_ (some 9) rfl rfl Try.func71 (by kernel_rfl) rfl #[.slice A1 l1.length c1, .func (.func 97) #[] #[.pointer (some ⟨gb270, 0, none⟩), .pointer (some ⟨gb269, 0, none⟩)]] rfl amp_ ?_; (with_reducible refine (impl_renamed_s2.calls k _ _ l1 gb270 a2 gb269 a0 t271 _ ?side1 ?side2 ?side3 ?side4 A4.out).mono ?_); (case side1 => repeat (first | exact (Kd.C_below HR1.out HB.out) | (with_reducible refine Kd.C_alloc ?_ _) | (with_reducible refine Kd.C_drewN ?_ _) | (with_reducible refine Kd.C_drew ?_))); (case side2 => exact HC1.out); (case side3 => (with_reducible repeat (first | refine blk_drewN ?_ _ | refine blk_drew ?_ | refine blk_alloc ?_ _)); exact BK270.out); (case side4 => (with_reducible repeat (first | refine blk_drewN ?_ _ | refine blk_drew ?_ | refine blk_alloc ?_ _)); exact BK269.out); rintro e w7 ⟨v272, rfl, ho0, hb⟩; refine ⟨_, rfl, ?_⟩; have n0_ := Aside0.mk (Kd.R_lower ho0 (below_size (by repeat (first | (with_reducible first | exact HB.out | apply below_alloc | apply pw_below_drewN | apply below_drew1 | refine below_set ?_ GE269.out | refine below_set ?_ GE270.out) | exact HB.out)))); have n1_ := Aside0.mk (blk_below (g := gb269) (o := .cells #[.int .i64 a0] 3 (0, 0)) (bk_ BK269.out) hb); have n2_ := Aside0.mk (blk_below (g := gb270) (o := .cells #[.int .i64 a2] 3 (0, 0)) (bk_ BK270.out) hb); have n3_ := Aside0.mk (below_step (by repeat (first | (with_reducible first | exact HB.out | apply below_alloc | apply pw_below_drewN | apply below_drew1 | refine below_set ?_ GE269.out | refine below_set ?_ GE270.out) | exact HB.out)) hb); clear BK269; clear BK270; clear HB; have HO273 := n0_; have BK269 := n1_; have BK270 := n2_; have HB := n3_; clear n0_ n1_ n2_ n3_; (try clear hb); (try clear hb2); (try clear hk); (try clear hi); (try clear ho0)))
 go_ret
 exact ⟨_, by first | rfl | (simp [errW_none, errW_some] <;> rfl) | (simp [*, errW_none, errW_some] <;> rfl), by (with_reducible repeat (first | apply Kd.R_alloc | apply Kd.R_drewN | apply Kd.R_drew)); exact HO273.out, by repeat (first | (with_reducible first | exact HB.out | apply below_alloc | apply pw_below_drewN | apply below_drew1 | refine below_set ?_ GE269.out | refine below_set ?_ GE270.out) | exact HB.out)⟩

/-! ### impl_leastTurned: function 48 -/
def impl_leastTurned.l0 : Nat → Int → List (S52) → List (S52) → Int → Int → Option ((List (S52)))
 | 0, _, _, _, _, _ => none
 | k + 1, x0, x1, x5, x10, x11 => if x11 < x10 then ((impl_turned.f k x0 x1 x11).bind fun t277 => ((impl_compareLists.f k t277 x5).bind fun t280 => (if t280 < 0 then (impl_leastTurned.l0 k x0 x1 t277 x10 (wrap64 (x11 + 1))) else (impl_leastTurned.l0 k x0 x1 x5 x10 (wrap64 (x11 + 1)))))) else (some x5)
def impl_leastTurned.f (k : Nat) (a0 : Int) (l1 : List (S52)) : Option ((List (S52))) := (impl_Diagonal_66.f l1).bind fun t274 => (impl_leastTurned.l0 k a0 l1 t274 a0 0)
theorem impl_leastTurned.mono_l : ∀ k, (∀ y0 y1 y2 y3 y4, LeO (impl_leastTurned.l0 k y0 y1 y2 y3 y4) (impl_leastTurned.l0 (k + 1) y0 y1 y2 y3 y4))
 | 0 => fun _ _ _ _ _ r h => by simp [impl_leastTurned.l0] at h
 | k + 1 => by
  have ih0 := impl_leastTurned.mono_l k
  ·intro y0 y1 y2 y3 y4
   unfold impl_leastTurned.l0
   repeat' first
   | (with_reducible exact ih0 _ _ _ _ _)
   | (with_reducible exact impl_compareLists.mono _ _ _)
   | (with_reducible exact impl_turned.mono _ _ _ _)
   | (with_reducible exact LeO.refl _)
   | (with_reducible exact LeO.none _)
   | (with_reducible refine LeO.ite ?_ ?_)
   | (with_reducible refine LeO.bind ?_ (fun _ => ?_))
   | exact ih0 _ _ _ _ _
   | exact impl_compareLists.mono _ _ _
   | exact impl_turned.mono _ _ _ _
   | exact LeO.none _
   | refine LeO.ite ?_ ?_
   | refine LeO.bind ?_ (fun _ => ?_)
theorem impl_leastTurned.mono : ∀ a0 a1 k, LeO (impl_leastTurned.f k a0 a1) (impl_leastTurned.f (k + 1) a0 a1) := by
 intro a0 a1 k
 have ih0 := impl_leastTurned.mono_l k
 unfold impl_leastTurned.f
 repeat' first
   | (with_reducible exact ih0 _ _ _ _ _)
   | (with_reducible exact impl_compareLists.mono _ _ _)
   | (with_reducible exact impl_turned.mono _ _ _ _)
   | (with_reducible exact LeO.refl _)
   | (with_reducible exact LeO.none _)
   | (with_reducible refine LeO.ite ?_ ?_)
   | (with_reducible refine LeO.bind ?_ (fun _ => ?_))
   | exact ih0 _ _ _ _ _
   | exact impl_compareLists.mono _ _ _
   | exact impl_turned.mono _ _ _ _
   | exact LeO.none _
   | refine LeO.ite ?_ ?_
   | refine LeO.bind ?_ (fun _ => ?_)
set_option maxHeartbeats 8000000 in
set_option maxRecDepth 100000 in
theorem impl_leastTurned.calls (k : Nat) (a0 : Int) (A1 : Option Addr) (c1 : Nat) (l1 : List (S52)) (r : List (S52)) (w : World) (hr1 : Kd.C k52 w A1 l1.length l1) (hc1 : l1.length ≤ c1) (h : impl_leastTurned.f k a0 l1 = some r) :
  Calls Try.prog 48 #[.int .i64 a0, .slice A1 l1.length c1] w fun e w' => ∃ v0_ : Value, e = .returned (v0_) ∧ Kd.R k52 52 w' w.heap.size (fun _ => True) v0_ r ∧ Below w.heap.size w w' := by
 have HR1 := Aside0.mk hr1
 have HC1 := Aside0.mk hc1
 clear hr1 hc1
 have HB := Aside0.mk (Below.refl w.heap.size w)
 have H : ((impl_Diagonal_66.f l1).bind fun t274 => (impl_leastTurned.l0 k a0 l1 t274 a0 0)) = some r := h
 clear h
 replace H := Option.bind_eq_some_iff.mp H
 obtain ⟨t274, A30, H⟩ := H
 replace H : (impl_leastTurned.l0 k a0 l1 t274 a0 0) = some r := H
 have A3 := Aside0.mk A30
 clear A30
 have H' := Aside0.mk H
 clear H
 go_enter Try.func48, Try.ntmps48
 go_wp2_with (first | ((with_reducible refine gate_callee (f := 66) rfl ?_); refine goesL_ (some 9) rfl rfl Try.func66 (by kernel_rfl) rfl #[.slice A1 l1.length c1] rfl amp_ ?_; (with_reducible refine (impl_Diagonal_66.calls _ _ l1 t274 _ ?side1 ?side2 A3.out).mono ?_); (case side1 => repeat (first | exact HR1.out | (with_reducible refine Kd.C_alloc ?_ _) | (with_reducible refine Kd.C_drewN ?_ _) | (with_reducible refine Kd.C_drew ?_))); (case side2 => exact HC1.out); rintro e w4 ⟨v275, rfl, ho0, hb⟩; refine ⟨_, rfl, ?_⟩; have n0_ := Aside0.mk (Kd.R_lower ho0 (below_size blw_)); have n1_ := Aside0.mk (below_step blw_ hb); clear HB; have HO276 := n0_; have HB := n1_; clear n0_ n1_; (try clear hb); (try clear hb2); (try clear hk); (try clear hi); (try clear ho0)))
 go_loopg [5, 11] k (fun kq v5 v11 w' => ∃ (x5_1 : List (S52)) (x11_1 : Int), v11 = .int .i64 x11_1 ∧ Aside0 (impl_leastTurned.l0 kq a0 l1 x5_1 a0 x11_1 = some r) ∧ Aside0 (kq ≤ k) ∧ Aside0 (Kd.R k52 52 w' w.heap.size (fun _ => True) v5 x5_1) ∧ Aside0 (Below w.heap.size w w'))
 case atStart => exact ⟨(t274), (0), (by first | rfl | (simp; done) | (simp [*]; done)), H', ⟨Nat.le_refl _⟩, ⟨ra_ HO276.out⟩, ⟨by repeat (first | (with_reducible first | exact HB.out | apply below_alloc | apply pw_below_drewN | apply below_drew1) | exact HB.out)⟩⟩
 case round =>
  clear H'
  try clear c1
  try clear p2
  try clear c4
  try clear HO_5
  obtain ⟨x5_1, x11_1, rfl, HA, HK1, HO_5, HB⟩ := hrel
  cases gk with
  | zero => exact absurd HA.out (by simp [impl_leastTurned.l0])
  | succ k1 =>
   have H := HA.out
   clear HA
   simp only [impl_leastTurned.l0] at H
   by_cases c5 : x11_1 < a0
   ·rw [if_pos c5] at H
    have c5b0 : decide (x11_1 < a0) = true := decide_eq_true c5
    clear c5
    replace H := Option.bind_eq_some_iff.mp H
    obtain ⟨t277, A60, H⟩ := H
    replace H : ((impl_compareLists.f k1 t277 x5_1).bind fun t280 => (if t280 < 0 then (impl_leastTurned.l0 k1 a0 l1 t277 a0 (wrap64 (x11_1 + 1))) else (impl_leastTurned.l0 k1 a0 l1 x5_1 a0 (wrap64 (x11_1 + 1))))) = some r := H
    have A6 := Aside0.mk A60
    clear A60
    replace H := Option.bind_eq_some_iff.mp H
    obtain ⟨t280, A70, H⟩ := H
    replace H : (if t280 < 0 then (impl_leastTurned.l0 k1 a0 l1 t277 a0 (wrap64 (x11_1 + 1))) else (impl_leastTurned.l0 k1 a0 l1 x5_1 a0 (wrap64 (x11_1 + 1)))) = some r := H
    have A7 := Aside0.mk A70
    clear A70
    by_cases c8 : t280 < 0
    ·rw [if_pos c8] at H
     have c8b0 : decide (t280 < 0) = true := decide_eq_true c8
     clear c8
     have H' := Aside0.mk H
     clear H
     go_wp2_with (first | ((with_reducible refine gate_callee (f := 70) rfl ?_); refine goesL_ (some 17) rfl rfl Try.func70 (by kernel_rfl) rfl #[.int .i64 a0, .slice A1 l1.length c1, .int .i64 x11_1] rfl amp_ ?_; (with_reducible refine (impl_turned.calls k1 a0 _ _ l1 x11_1 t277 _ ?side1 ?side2 A6.out).mono ?_); (case side1 => repeat (first | exact (Kd.C_below HR1.out HB.out) | (with_reducible refine Kd.C_alloc ?_ _) | (with_reducible refine Kd.C_drewN ?_ _) | (with_reducible refine Kd.C_drew ?_))); (case side2 => exact HC1.out); rintro e w9 ⟨v278, rfl, ho0, hb⟩; refine ⟨_, rfl, ?_⟩; have n0_ := Aside0.mk (Kd.R_elder' (ra_ HO_5.out) (Kd.R_base ho0) hb); have n1_ := Aside0.mk (Kd.R_lower (Kd.R_new' ho0 (Kd.R_lt (ra_ HO_5.out))) (below_size blw_)); have n2_ := Aside0.mk (below_step blw_ hb); clear HO_5; clear HB; have HO_5 := n0_; have HO279 := n1_; have HB := n2_; clear n0_ n1_ n2_; (try clear hb); (try clear hb2); (try clear hk); (try clear hi); (try clear ho0); obtain ⟨Ao10, co10, eo10⟩ := Kd.R_slice HO279.out; subst eo10; obtain ⟨Ao11, co11, eo11⟩ := Kd.R_slice HO_5.out; subst eo11) | ((with_reducible refine gate_callee (f := 50) rfl ?_); refine goesL_ (some 20) rfl rfl Try.func50 (by kernel_rfl) rfl #[.slice Ao10 t277.length co10, .slice Ao11 x5_1.length co11] rfl amp_ ?_; (with_reducible refine (impl_compareLists.calls k1 _ _ t277 _ _ x5_1 t280 _ ?side1 ?side2 ?side3 ?side4 A7.out).mono ?_); (case side1 => repeat (first | exact (Kd.R_reads' HO279.out).2.2 | (with_reducible refine Kd.C_alloc ?_ _) | (with_reducible refine Kd.C_drewN ?_ _) | (with_reducible refine Kd.C_drew ?_))); (case side2 => exact (Kd.R_reads' HO279.out).2.1); (case side3 => repeat (first | exact (Kd.R_reads' HO_5.out).2.2 | (with_reducible refine Kd.C_alloc ?_ _) | (with_reducible refine Kd.C_drewN ?_ _) | (with_reducible refine Kd.C_drew ?_))); (case side4 => exact (Kd.R_reads' HO_5.out).2.1); rintro e w12 ⟨rfl, hb⟩; refine ⟨_, rfl, ?_⟩; have n0_ := Aside0.mk (Kd.R_below (ra_ HO_5.out) hb); have n1_ := Aside0.mk (Kd.R_below (ra_ HO279.out) hb); have n2_ := Aside0.mk (below_step blw_ hb); clear HO_5; clear HO279; clear HB; have HO_5 := n0_; have HO279 := n1_; have HB := n2_; clear n0_ n1_ n2_; (try clear hb); (try clear hb2); (try clear hk); (try clear hi)))
     go_roundg k1
     case measure => have := HK1.out; omega
     case rel => exact ⟨(t277), (wrap64 (x11_1 + 1)), (by first | rfl | (simp; done) | (simp [*]; done)), H', ⟨by have := HK1.out; omega⟩, ⟨by (with_reducible repeat (first | apply Kd.R_alloc | apply Kd.R_drewN | apply Kd.R_drew)); exact Kd.R_mono HO279.out (fun _ hk => trivial)⟩, ⟨by repeat (first | (with_reducible first | exact HB.out | apply below_alloc | apply pw_below_drewN | apply below_drew1) | exact HB.out)⟩⟩
    ·rw [if_neg c8] at H
     have c8b0 : decide (t280 < 0) = false := decide_eq_false c8
     clear c8
     have H' := Aside0.mk H
     clear H
     go_wp2_with (first | ((with_reducible refine gate_callee (f := 70) rfl ?_); refine goesL_ (some 17) rfl rfl Try.func70 (by kernel_rfl) rfl #[.int .i64 a0, .slice A1 l1.length c1, .int .i64 x11_1] rfl amp_ ?_; (with_reducible refine (impl_turned.calls k1 a0 _ _ l1 x11_1 t277 _ ?side1 ?side2 A6.out).mono ?_); (case side1 => repeat (first | exact (Kd.C_below HR1.out HB.out) | (with_reducible refine Kd.C_alloc ?_ _) | (with_reducible refine Kd.C_drewN ?_ _) | (with_reducible refine Kd.C_drew ?_))); (case side2 => exact HC1.out); rintro e w13 ⟨v278, rfl, ho0, hb⟩; refine ⟨_, rfl, ?_⟩; have n0_ := Aside0.mk (Kd.R_elder' (ra_ HO_5.out) (Kd.R_base ho0) hb); have n1_ := Aside0.mk (Kd.R_lower (Kd.R_new' ho0 (Kd.R_lt (ra_ HO_5.out))) (below_size blw_)); have n2_ := Aside0.mk (below_step blw_ hb); clear HO_5; clear HB; have HO_5 := n0_; have HO279 := n1_; have HB := n2_; clear n0_ n1_ n2_; (try clear hb); (try clear hb2); (try clear hk); (try clear hi); (try clear ho0); obtain ⟨Ao14, co14, eo14⟩ := Kd.R_slice HO279.out; subst eo14; obtain ⟨Ao15, co15, eo15⟩ := Kd.R_slice HO_5.out; subst eo15) | ((with_reducible refine gate_callee (f := 50) rfl ?_); refine goesL_ (some 20) rfl rfl Try.func50 (by kernel_rfl) rfl #[.slice Ao14 t277.length co14, .slice Ao15 x5_1.length co15] rfl amp_ ?_; (with_reducible refine (impl_compareLists.calls k1 _ _ t277 _ _ x5_1 t280 _ ?side1 ?side2 ?side3 ?side4 A7.out).mono ?_); (case side1 => repeat (first | exact (Kd.R_reads' HO279.out).2.2 | (with_reducible refine Kd.C_alloc ?_ _) | (with_reducible refine Kd.C_drewN ?_ _) | (with_reducible refine Kd.C_drew ?_))); (case side2 => exact (Kd.R_reads' HO279.out).2.1); (case side3 => repeat (first | exact (Kd.R_reads' HO_5.out).2.2 | (with_reducible refine Kd.C_alloc ?_ _) | (with_reducible refine Kd.C_drewN ?_ _) | (with_reducible refine Kd.C_drew ?_))); (case side4 => exact (Kd.R_reads' HO_5.out).2.1); rintro e w16 ⟨rfl, hb⟩; refine ⟨_, rfl, ?_⟩; have n0_ := Aside0.mk (Kd.R_below (ra_ HO_5.out) hb); have n1_ := Aside0.mk (Kd.R_below (ra_ HO279.out) hb); have n2_ := Aside0.mk (below_step blw_ hb); clear HO_5; clear HO279; clear HB; have HO_5 := n0_; have HO279 := n1_; have HB := n2_; clear n0_ n1_ n2_; (try clear hb); (try clear hb2); (try clear hk); (try clear hi)))
     go_roundg k1
     case measure => have := HK1.out; omega
     case rel => exact ⟨(x5_1), (wrap64 (x11_1 + 1)), (by first | rfl | (simp; done) | (simp [*]; done)), H', ⟨by have := HK1.out; omega⟩, ⟨by (with_reducible repeat (first | apply Kd.R_alloc | apply Kd.R_drewN | apply Kd.R_drew)); exact Kd.R_mono HO_5.out (fun _ hk => trivial)⟩, ⟨by repeat (first | (with_reducible first | exact HB.out | apply below_alloc | apply pw_below_drewN | apply below_drew1) | exact HB.out)⟩⟩
   ·rw [if_neg c5] at H
    have c5b0 : decide (x11_1 < a0) = false := decide_eq_false c5
    clear c5
    obtain rfl := Option.some.inj H
    go_wp2
    go_ret
    exact ⟨_, by first | rfl | (simp [errW_none, errW_some] <;> rfl) | (simp [*, errW_none, errW_some] <;> rfl), by (with_reducible repeat (first | apply Kd.R_alloc | apply Kd.R_drewN | apply Kd.R_drew)); exact HO_5.out, by repeat (first | (with_reducible first | exact HB.out | apply below_alloc | apply pw_below_drewN | apply below_drew1) | exact HB.out)⟩

-- TOLD FOR impl_mirrored_1_s6: impl.mirrored$1 | 
/-! ### impl_mirrored_1_s6: function 100006 -/
def impl_mirrored_1_s6.f (a0 : Int) (a1_0_0 : Int) : Option (Int) := some (wrap64 ((wrap64 (a1_0_0 - 1)) - a0))
set_option maxHeartbeats 8000000 in
set_option maxRecDepth 100000 in
theorem impl_mirrored_1_s6.calls (a0 : Int) (gc1_0 : Nat) (a1_0_0 : Int) (r : Int) (w : World) (hb1_0 : w.heap[gc1_0]? = some (.cells #[.int .i64 a1_0_0] 3 (0, 0))) (h : impl_mirrored_1_s6.f a0 a1_0_0 = some r) :
  Calls Try.prog 72 #[.int .i64 a0, .pointer (some ⟨gc1_0, 0, none⟩)] w fun e w' => e = .returned (.int .i64 r) ∧ Drawn0 w w' := by
 have BK20 := Aside0.mk hb1_0
 clear hb1_0
 have H : (some (wrap64 ((wrap64 (a1_0_0 - 1)) - a0))) = some r := h
 clear h
 obtain rfl := Option.some.inj H
 have hcz3_0 : w.cell? ⟨gc1_0, 0, none⟩ = some (.int .i64 a1_0_0) := (blk_cell BK20.out 0).trans rfl
 have hfz3_0 := blk_frozen BK20.out 0
 go_enter Try.func72, Try.ntmps72
 go_wp2
 go_ret
 exact ⟨by first | rfl | (simp; done) | (simp [*]; done), by repeat (first | exact Drawn0.refl _ | apply Drawn0.step)⟩

end Go.Proofs.Ytgblginphicacaa.PFnExactAllClasses
