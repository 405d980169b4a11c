-- WRITTEN BY A PROGRAM OF THIS WORK (wip/tools/ppatch.py) for this claim.
import Derived.Test.YtgblginphicacaaPFnExactRankOfQuiddityx0
import Derived.Test.YtgblginphicacaaPFnExactRankOfQuiddityx8
namespace Go.Proofs.Ytgblginphicacaa.PFnExactRankOfQuiddity
open Go.RowKit Go.Proofs.YtgblginphicacaaW.PrintWords Go.Proofs.YtgblginphicacaaW.PrintLast Go.Proofs.YtgblginphicacaaW.PrintMore
attribute [local go_sem] max2_int min2_int max_two min_two max_three min_three max_four min_four   -- for this text's walks alone
set_option linter.unusedVariables false
set_option linter.unusedSimpArgs false

/-! ### slices_Repeat_int_int: function 75 -/
theorem splice_get {α : Type} (L : List α) (off : Nat) (cs : List α) (h : off + cs.length ≤ L.length) (q : Nat) : (splice L off cs)[q]? = if q < off then L[q]? else if q < off + cs.length then cs[q - off]? else L[q]? := by
 have h2 := seg_get L cs off h q
 rw [List.append_assoc] at h2
 exact h2
theorem size3 : (Try.prog.info? 3).map (fun i => i.size) = some 1 := by kernel_rfl
def slices_Repeat_int_int.f (l0 : List Int) (a1 : Int) : Option (List Int) := if l0.length = 1 ∧ 1 ≤ a1 ∧ a1 ≤ 1000 ∧ bits_Mul.f 1 a1 = some (0, a1) then some (List.replicate a1.toNat (rd l0 0)) else none
set_option maxHeartbeats 4000000 in
set_option maxRecDepth 100000 in
theorem slices_Repeat_int_int.calls (A0 : Option Addr) (c0 : Nat) (l0 : List Int) (a1 : Int) (r : List Int) (w : World) (hr0 : Kd.C (Kd.int .i64) w A0 l0.length l0) (hc0 : l0.length ≤ c0) (h : slices_Repeat_int_int.f l0 a1 = some r) :
  Calls Try.prog 75 #[.slice A0 l0.length c0, .int .i64 a1] w fun e w' => ∃ v0_ : Value, e = .returned (v0_) ∧ Kd.R (Kd.int .i64) 3 w' w.heap.size (fun _ => True) v0_ r ∧ Below w.heap.size w w' := by
 have H : (if l0.length = 1 ∧ 1 ≤ a1 ∧ a1 ≤ 1000 ∧ bits_Mul.f 1 a1 = some (0, a1) then some (List.replicate a1.toNat (rd l0 0)) else none) = some r := h
 clear h
 by_cases hc : l0.length = 1 ∧ 1 ≤ a1 ∧ a1 ≤ 1000 ∧ bits_Mul.f 1 a1 = some (0, a1)
 ·rw [if_pos hc] at H
  obtain rfl := Option.some.inj H
  obtain ⟨h1, h2, h3, h4⟩ := hc
  obtain ⟨x, rfl⟩ : ∃ x, l0 = [x] := by
   match l0, h1 with
   | [x], _ => exact ⟨x, rfl⟩
  obtain ⟨n, rfl⟩ := Int.eq_ofNat_of_zero_le (by omega : 0 ≤ a1)
  have hx : rd [x] 0 = x := rfl
  rw [hx, Int.toNat_natCast]
  show Calls Try.prog 75 #[.slice A0 1 c0, .int .i64 (n : Int)] w _
  obtain ⟨ad, rfl, hcell⟩ := hr0.2.2 (by simp)
  obtain ⟨ce, hcel, hK, hcc⟩ := hcell 0 x rfl
  have hce : ce = [.int .i64 x] := hK
  have hcx : w.cell? (ad.add 0) = some (.int .i64 x) := hcc 0 _ (by rw [hce]; rfl)
  have hw1 : IntKind.u64.wrap (n : Int) = (n : Int) := by unfold IntKind.wrap; simp [IntKind.bits]; omega
  have hw2 : wrap64 (n : Int) = (n : Int) := by unfold wrap64; omega
  have hgt : decide ((n : Int) > 9223372036854775807) = false := by rw [decide_eq_false_iff_not]; omega
  have hlt0 : decide ((n : Int) < 0) = false := by rw [decide_eq_false_iff_not]; omega
  have hmk := print_make (P := Try.prog) 33 3 .i64 8 Try.underlying33 info3 (by omega) n (by omega)
  have HM := Aside0.mk h4
  have HX := Aside0.mk hcx
  have n1 : 1 ≤ n := by omega
  have n2 : n ≤ 1000 := by omega
  have hk1 : ∀ (w1 w0' : World), True := fun _ _ => trivial
  have hcopy : ∀ (w1 : World), (w1.alloc (.cells (madeCells #[.int .i64 0] n) 3)).heap[w1.heap.size]? = some (.cells (madeCells #[.int .i64 0] n).toList.toArray 3 (0, 0)) := fun w1 => by
   rw [Array.toArray_toList]
   exact Array.getElem?_push_size
  have hmlen : (madeCells #[Value.int .i64 0] n).toList.length = n := by simp [size_madeCells]
  have hsrc : ∀ (w1 : World), Below w.heap.size w w1 → ∀ (j : Nat) (v : Value), [Value.int .i64 x][j]? = some v → (w1.alloc (.cells (madeCells #[.int .i64 0] n) 3)).cell? (ad.add j) = some v := by
   intro w1 h1 j v hv
   match j, hv with
   | 0, hv =>
    simp only [List.getElem?_cons_zero, Option.some.injEq] at hv
    subst hv
    exact Lib.cell?_alloc_some _ ((h1.cell (World.block_lt_of_cell? w _ hcx)).trans hcx)
   | j + 1, hv => simp at hv
  have HSR := Aside0.mk hsrc
  clear hsrc
  have HCP := Aside0.mk hcopy
  have HML := Aside0.mk hmlen
  clear hcopy hmlen hk1
  clear hr0 hcell hcc hK hcel hce hcx h4 h1 h2 h3 hx H hc0
  go_enter Try.func75, Try.ntmps75
  go_wp2_with (first
   | (go_at_call 99; refine (bits_Mul.calls 1 (n : Int) 0 (n : Int) _ HM.out).mono ?_; rintro e w1 ⟨rfl, hb⟩; have HB1 := Aside0.mk (Drawn0.below hb); clear hb)
   | ((with_reducible refine gate_builtin (b := .copy) (xs := #[.tmp 31, .tmp 32]) rfl ?_); refine wpList_copy_splice rfl (.tmp 31) (.tmp 32) 33 33 rfl 3 Try.underlying33 size3 (some ⟨w1.heap.size, 0, none⟩) (some ad) n n 1 c0 rfl rfl w1.heap.size 0 (madeCells #[.int .i64 0] n).toList 3 (HCP.out w1) [.int .i64 x] (by show 1 = Nat.min 1 n; exact (Nat.min_eq_left n1).symm) (fun _ => ⟨rfl, ad, rfl, fun j v hv => HSR.out w1 HB1.out j v hv⟩) (by rw [HML.out]; show 0 + 1 ≤ n; omega) (by intro v hv; rw [List.mem_singleton.1 hv]; rfl) w.heap.size w (below_alloc HB1.out _) (below_size HB1.out) ?_; intro w2 hg2 hb2; have HG2 := Aside0.mk hg2.out; have HB2 := Aside0.mk hb2; clear hg2 hb2))
  go_loopg [8] n (fun gg s8 wr => ∃ j : Nat, s8 = .int .i64 j ∧ 1 ≤ j ∧ j ≤ n ∧ n - j ≤ gg ∧ Aside0 (∃ cur : List Value, wr.heap[w1.heap.size]? = some (.cells cur.toArray 3 (0, 0)) ∧ cur.length = n ∧ ∀ q, q < j → cur[q]? = some (.int .i64 x)) ∧ Aside0 (Below w.heap.size w wr))
  case atStart =>
   refine ⟨1, rfl, Nat.le_refl _, n1, by omega, ⟨_, HG2.out, by rw [length_splice _ _ _ (by rw [HML.out]; show 0 + 1 ≤ n; omega)]; exact HML.out, ?_⟩, HB2⟩
   intro q hq
   rw [splice_get _ _ _ (by rw [HML.out]; show 0 + 1 ≤ n; omega), if_neg (by omega), if_pos (by simpa using hq), show q = 0 by omega]
   rfl
  case round =>
   obtain ⟨j, rfl, hj1, hjn, hgg, HC, HBr⟩ := hrel
   by_cases hlt : j < n
   ·have hltz : (j : Int) < (n : Int) := by omega
    obtain ⟨cur, hcur, hcl, hcv⟩ := HC.out
    have hcur2 : wr.drew.heap[w1.heap.size]? = some (.cells cur.toArray 3 (0, 0)) := hcur
    obtain ⟨m, hm⟩ : ∃ m, m = Nat.min j (n - j) := ⟨_, rfl⟩
    obtain ⟨cs, hcs⟩ : ∃ cs : List Value, cs = List.replicate m (.int .i64 x) := ⟨_, rfl⟩
    have hcsl : cs.length = m := by rw [hcs, List.length_replicate]
    have hm0 : m = min j (n - j) := hm
    have hm1 : 1 ≤ m := by omega
    have hm2 : j + m ≤ n := by omega
    have hsrc : ∀ (q : Nat) (v : Value), cs[q]? = some v → wr.drew.cell? ((⟨w1.heap.size, 0, none⟩ : Addr).add q) = some v := by
     intro q v hv
     have hq : q < m := by rw [← hcsl]; exact (List.getElem?_eq_some_iff.1 hv).1
     rw [hcs, List.getElem?_replicate, if_pos hq] at hv
     rw [add_plain, cell_of_row wr.drew _ _ cur.toArray 3 (0, 0) hcur2, List.getElem?_toArray]
     rw [← hv]
     exact hcv q (by omega)
    have HS := Aside0.mk hsrc
    have HG := Aside0.mk hcur2
    have HCV := Aside0.mk hcv
    have HCS := Aside0.mk hcs
    have HCSL := Aside0.mk hcsl
    have HCL := Aside0.mk hcl
    have HM0 := Aside0.mk hm0
    have HM1 := Aside0.mk hm
    have hbd : Below w.heap.size w wr.drew := below_drew HBr.out
    have HBD := Aside0.mk hbd
    clear hsrc hcur hcur2 hcv hcs hcsl hcl hm0 hm hbd
    go_wp2
    go_region_law (refine step_copy_splice rfl (.tmp 41) (.tmp 44) 33 33 rfl 3 Try.underlying33 size3 (some ⟨w1.heap.size, j, none⟩) (some ⟨w1.heap.size, 0, none⟩) (n - j) (n - j) j n (by simp [Act.eval, Act.put]; omega) (by simp [Act.eval, Act.put]) w1.heap.size j cur 3 HG.out cs (by rw [HCSL.out]; exact HM1.out) (fun _ => ⟨rfl, ⟨w1.heap.size, 0, none⟩, rfl, HS.out⟩) (by rw [HCSL.out, HCL.out]; exact hm2) (by rw [HCS.out]; intro v hv; rw [List.eq_of_mem_replicate hv]; rfl) w.heap.size w HBD.out (below_size HB1.out) ?_; intro w4 hg4 hb4)
    have HG4 := Aside0.mk hg4.out
    have HB4 := Aside0.mk hb4
    clear hg4 hb4
    go_wp2
    go_roundg (n - (j + m))
    case measure => omega
    case rel =>
     refine ⟨j + m, ?_, by omega, hm2, by omega, ⟨_, HG4.out, by rw [length_splice _ _ _ (by rw [HCSL.out, HCL.out]; exact hm2)]; exact HCL.out, ?_⟩, HB4⟩
     ·rw [HCSL.out]
      have hw : IntKind.i64.wrap ((j : Int) + (m : Int)) = ((j + m : Nat) : Int) := by
       unfold IntKind.wrap
       simp [IntKind.bits]
       omega
      rw [hw]
     ·intro q hq
      rw [splice_get _ _ _ (by rw [HCSL.out, HCL.out]; exact hm2)]
      by_cases h1 : q < j
      ·rw [if_pos h1]
       exact HCV.out q h1
      ·rw [if_neg h1, if_pos (by rw [HCSL.out]; exact hq), HCS.out, List.getElem?_replicate, if_pos (by omega)]
   ·obtain rfl : j = n := by omega
    have hltz : ¬ (j : Int) < (j : Int) := by omega
    obtain ⟨cur, hcur, hcl, hcv⟩ := HC.out
    have HG := Aside0.mk hcur
    have HCL := Aside0.mk hcl
    have HCV := Aside0.mk hcv
    clear hcur hcl hcv
    go_wp2
    go_ret
    have hcl := HCL.out
    have hce : cur = nums .i64 (List.replicate j x) := by
     apply List.ext_getElem?
     intro q
     by_cases hq : q < j
     ·rw [HCV.out q hq]
      simp [nums, hq]
     ·rw [List.getElem?_eq_none (by omega), List.getElem?_eq_none (by simp [nums]; omega)]
    have hnl : (nums .i64 (List.replicate j x)).length = j := by simp [nums]
    refine ⟨_, rfl, ⟨fun _ _ => trivial, nums .i64 (List.replicate j x), ⟨?_, .inr ⟨w1.heap.size, j, cur.toArray, by rw [List.length_replicate]; rfl, below_size HB1.out, HG.out, by rw [List.length_replicate]; exact Nat.le_refl j, by unfold maxLen; omega, ?_, ?_⟩⟩, ?_, ?_⟩, HBr.out⟩
    ·rw [hnl, List.length_replicate]
     exact (Nat.mul_one j).symm
    ·show cur.length = j * 1
     omega
    ·rw [List.length_replicate]
     show (cur.take (j * 1)) = _
     rw [Nat.mul_one, List.take_of_length_le (by omega), hce]
    ·rw [hnl, List.length_replicate]
     exact (Nat.mul_one j).symm
    ·intro q p hq
     show ((nums .i64 (List.replicate j x)).drop (q * 1)).take 1 = [.int .i64 p]
     have hql : q < j := by
      have := (List.getElem?_eq_some_iff.1 hq).1
      rwa [List.length_replicate] at this
     rw [List.getElem?_replicate, if_pos hql] at hq
     injection hq with hq
     subst hq
     rw [Nat.mul_one]
     apply List.ext_getElem?
     intro z
     rw [List.getElem?_take, List.getElem?_drop]
     match z with
     | 0 => simp [nums, hql]
     | z + 1 => simp
 ·rw [if_neg hc] at H
  cases H


/-! ### impl_quiddity: function 53 -/
def impl_quiddity.l0 : Nat → List Int → List (S52) → Int → Int → Option (List Int)
 | 0, _, _, _, _ => none
 | k + 1, x5, x11, x12, x13 => if x13 < x12 then (if 0 ≤ x13 then (if x13 < (x11.length : Int) then (if 0 ≤ ((rd_T52 x11 x13).f0) then (if ((rd_T52 x11 x13).f0) < (x5.length : Int) then ((some (x5.set (((rd_T52 x11 x13).f0) : Int).toNat (wrap64 ((rd x5 ((rd_T52 x11 x13).f0)) + 1)) : List Int)).bind fun y338 => (if 0 ≤ ((rd_T52 x11 x13).f1) then (if ((rd_T52 x11 x13).f1) < (x5.length : Int) then (impl_quiddity.l0 k (y338.set (((rd_T52 x11 x13).f1) : Int).toNat (wrap64 ((rd y338 ((rd_T52 x11 x13).f1)) + 1))) x11 x12 (wrap64 (x13 + 1))) else (none)) else (none))) else (none)) else (none)) else (none)) else (none)) else (some x5)
def impl_quiddity.f (k : Nat) (a0 : Int) (l1 : List (S52)) : Option (List Int) := (slices_Repeat_int_int.f (([1] : List Int)) a0).bind fun t332 => (impl_quiddity.l0 k t332 l1 (l1.length : Int) 0)
theorem impl_quiddity.mono_l : ∀ k, (∀ y0 y1 y2 y3, LeO (impl_quiddity.l0 k y0 y1 y2 y3) (impl_quiddity.l0 (k + 1) y0 y1 y2 y3))
 | 0 => fun _ _ _ _ r h => by simp [impl_quiddity.l0] at h
 | k + 1 => by
  have ih0 := impl_quiddity.mono_l k
  ·intro y0 y1 y2 y3
   unfold impl_quiddity.l0
   repeat' first
   | (with_reducible exact ih0 _ _ _ _)
   | (with_reducible exact LeO.refl _)
   | (with_reducible exact LeO.none _)
   | (with_reducible refine LeO.ite ?_ ?_)
   | (with_reducible refine LeO.bind ?_ (fun _ => ?_))
   | exact ih0 _ _ _ _
   | exact LeO.none _
   | refine LeO.ite ?_ ?_
   | refine LeO.bind ?_ (fun _ => ?_)
theorem impl_quiddity.mono : ∀ a0 a1 k, LeO (impl_quiddity.f k a0 a1) (impl_quiddity.f (k + 1) a0 a1) := by
 intro a0 a1 k
 have ih0 := impl_quiddity.mono_l k
 unfold impl_quiddity.f
 repeat' first
   | (with_reducible exact ih0 _ _ _ _)
   | (with_reducible exact LeO.refl _)
   | (with_reducible exact LeO.none _)
   | (with_reducible refine LeO.ite ?_ ?_)
   | (with_reducible refine LeO.bind ?_ (fun _ => ?_))
   | exact ih0 _ _ _ _
   | exact LeO.none _
   | refine LeO.ite ?_ ?_
   | refine LeO.bind ?_ (fun _ => ?_)
set_option maxHeartbeats 8000000 in
set_option maxRecDepth 100000 in
theorem impl_quiddity.calls (k : Nat) (a0 : Int) (A1 : Option Addr) (c1 : Nat) (l1 : List (S52)) (r : List Int) (w : World) (hr1 : Kd.C k52 w A1 l1.length l1) (hc1 : l1.length ≤ c1) (h : impl_quiddity.f k a0 l1 = some r) :
  Calls Try.prog 53 #[.int .i64 a0, .slice A1 l1.length c1] w fun e w' => ∃ v0_ : Value, e = .returned (v0_) ∧ Kd.R (Kd.int .i64) 3 w' w.heap.size (fun _ => True) v0_ r ∧ Below w.heap.size w w' := by
 have hu52 := Try.underlying52
 have HR1 := Aside0.mk hr1
 have HC1 := Aside0.mk hc1
 clear hr1 hc1
 have HB := Aside0.mk (Below.refl w.heap.size w)
 have H : ((slices_Repeat_int_int.f (([1] : List Int)) a0).bind fun t332 => (impl_quiddity.l0 k t332 l1 (l1.length : Int) 0)) = some r := h
 clear h
 obtain ⟨y329, hy329⟩ : ∃ y_ : List Int, y_ = (([1] : List Int)) := ⟨_, rfl⟩
 replace H : ((slices_Repeat_int_int.f y329 a0).bind fun t332 => (impl_quiddity.l0 k t332 l1 (l1.length : Int) 0)) = some r := by first | (rw [hy329]; with_reducible exact H) | (have H2_ := (Option.bind_some _ _).symm.trans H; rw [hy329]; with_reducible exact H2_) | (have H2_ := (Option.bind_some _ _).symm.trans H; with_reducible exact H2_) | with_reducible exact H | (rw [hy329]; exact H) | exact H
 have Ny329 := Aside0.mk hy329
 clear hy329
 replace H := Option.bind_eq_some_iff.mp H
 obtain ⟨t332, A30, H⟩ := H
 replace H : (impl_quiddity.l0 k t332 l1 (l1.length : Int) 0) = some r := H
 have A3 := Aside0.mk A30
 clear A30
 have H' := Aside0.mk H
 clear H
 go_enter Try.func53, Try.ntmps53
 go_wp2_with (first | ((with_reducible refine gate_dst (N := 8) rfl ?_); refine Kd.R_lit (Kd.int .i64) _ 3 ?hg (N := 8) ?hd (xs := ([1] : List Int)) (inner := [.int .i64 1]) (ok := fun _ => True) (okp := fun _ => True) ?hr ?hp (fun _ hk => hk) trivial (Below.refl _ _) (Nat.le_refl _) (by simp) ?_; (case hd => rfl); (case hg => rfl); (case hr => first | (go_simp; done) | (go_simp; rfl)); (case hp => exact (Reps.one (show Kd.M (Kd.int .i64) _ _ _ 1 [.int .i64 1] from rfl) (Reps.none _ _))); intro v330 w4 ho5 hb hg_ hnew_; clear hg_ hnew_; (first | rw [← Ny329.out] at ho5 | (simp only [Int.reduceToNat] at ho5; rw [← Ny329.out] at ho5)); have n0_ := Aside0.mk (Kd.R_lower ho5 (below_size blw_)); have n1_ := Aside0.mk (below_step blw_ hb); clear HB; have HO331 := n0_; have HB := n1_; clear n0_ n1_; clear hb ho5; obtain ⟨Ao6, co6, eo6⟩ := Kd.R_slice HO331.out; subst eo6) | ((with_reducible refine gate_callee (f := 75) rfl ?_); refine goesL_ (some 10) rfl rfl Try.func75 (by kernel_rfl) rfl #[.slice Ao6 y329.length co6, .int .i64 a0] rfl amp_ ?_; (with_reducible refine (slices_Repeat_int_int.calls _ _ y329 a0 t332 _ ?side1 ?side2 A3.out).mono ?_); (case side1 => repeat (first | exact (Kd.R_reads' HO331.out).2.2 | (with_reducible refine Kd.C_alloc ?_ _) | (with_reducible refine Kd.C_drewN ?_ _) | (with_reducible refine Kd.C_drew ?_))); (case side2 => exact (Kd.R_reads' HO331.out).2.1); rintro e w7 ⟨v333, rfl, ho0, hb⟩; refine ⟨_, rfl, ?_⟩; have n0_ := Aside0.mk (Kd.R_elder' (ra_ HO331.out) (Kd.R_base ho0) hb); have n1_ := Aside0.mk (Kd.R_lower (Kd.R_new' ho0 (Kd.R_lt (ra_ HO331.out))) (below_size blw_)); have n2_ := Aside0.mk (below_step blw_ hb); clear HO331; clear HB; have HO331 := n0_; have HO334 := n1_; have HB := n2_; clear n0_ n1_ n2_; (try clear hb); (try clear hb2); (try clear hk); (try clear hi); (try clear ho0)))
 go_loopg [13] k (fun kq v13 w' => ∃ (x5_1 : List Int) (x13_1 : Int), v13 = .int .i64 x13_1 ∧ Aside0 (impl_quiddity.l0 kq x5_1 l1 (l1.length : Int) x13_1 = some r) ∧ Aside0 (kq ≤ k) ∧ Aside0 (Kd.R (Kd.int .i64) 3 w' w.heap.size (fun _ => True) v333 x5_1) ∧ Aside0 (Below w.heap.size w w'))
 case atStart => exact ⟨(t332), (0), rsd_, H', ⟨Nat.le_refl _⟩, ⟨by (with_reducible repeat (first | apply Kd.R_alloc | apply Kd.R_drewN | apply Kd.R_drew)); exact Kd.R_mono HO334.out (fun _ hk => trivial)⟩, ⟨blw_⟩⟩
 case round =>
  clear H'
  try clear c1
  try clear p2
  try clear c5
  try clear c7
  try clear HO_5
  obtain ⟨x5_1, x13_1, rfl, HA, HK1, HO_5, HB⟩ := hrel
  cases gk with
  | zero => exact absurd HA.out (by simp [impl_quiddity.l0])
  | succ k1 =>
   have H := HA.out
   clear HA
   simp only [impl_quiddity.l0] at H
   by_cases c8 : x13_1 < (l1.length : Int)
   ·rw [if_pos c8] at H
    have c8b0 : decide (x13_1 < (l1.length : Int)) = true := decide_eq_true c8
    clear c8
    by_cases c9 : 0 ≤ x13_1
    case neg=>rw [if_neg c9] at H;exact absurd H (by simp)
    rw [if_pos c9] at H
    have c9b0 : decide (0 ≤ x13_1) = true := decide_eq_true c9
    clear c9
    by_cases c10 : x13_1 < (l1.length : Int)
    case neg=>rw [if_neg c10] at H;exact absurd H (by simp)
    rw [if_pos c10] at H
    have c10b0 : decide (x13_1 < (l1.length : Int)) = true := decide_eq_true c10
    clear c10
    by_cases c11 : 0 ≤ ((rd_T52 l1 x13_1).f0)
    case neg=>rw [if_neg c11] at H;exact absurd H (by simp)
    rw [if_pos c11] at H
    have c11b0 : decide (0 ≤ ((rd_T52 l1 x13_1).f0)) = true := decide_eq_true c11
    clear c11
    by_cases c12 : ((rd_T52 l1 x13_1).f0) < (x5_1.length : Int)
    case neg=>rw [if_neg c12] at H;exact absurd H (by simp)
    rw [if_pos c12] at H
    have c12b0 : decide (((rd_T52 l1 x13_1).f0) < (x5_1.length : Int)) = true := decide_eq_true c12
    clear c12
    obtain ⟨y338, hy338⟩ : ∃ y_ : List Int, y_ = (x5_1.set (((rd_T52 l1 x13_1).f0) : Int).toNat (wrap64 ((rd x5_1 ((rd_T52 l1 x13_1).f0)) + 1))) := ⟨_, rfl⟩
    replace H : (if 0 ≤ ((rd_T52 l1 x13_1).f1) then (if ((rd_T52 l1 x13_1).f1) < (x5_1.length : Int) then (impl_quiddity.l0 k1 (y338.set (((rd_T52 l1 x13_1).f1) : Int).toNat (wrap64 ((rd y338 ((rd_T52 l1 x13_1).f1)) + 1))) l1 (l1.length : Int) (wrap64 (x13_1 + 1))) else (none)) else (none)) = some r := by first | (rw [hy338]; with_reducible exact H) | (have H2_ := (Option.bind_some _ _).symm.trans H; rw [hy338]; with_reducible exact H2_) | (have H2_ := (Option.bind_some _ _).symm.trans H; with_reducible exact H2_) | with_reducible exact H | (rw [hy338]; exact H) | exact H
    have Ny338 := Aside0.mk hy338
    clear hy338
    by_cases c14 : 0 ≤ ((rd_T52 l1 x13_1).f1)
    case neg=>rw [if_neg c14] at H;exact absurd H (by simp)
    rw [if_pos c14] at H
    have c14b0 : decide (0 ≤ ((rd_T52 l1 x13_1).f1)) = true := decide_eq_true c14
    clear c14
    by_cases c15 : ((rd_T52 l1 x13_1).f1) < (x5_1.length : Int)
    case neg=>rw [if_neg c15] at H;exact absurd H (by simp)
    rw [if_pos c15] at H
    have c15b0 : decide (((rd_T52 l1 x13_1).f1) < (x5_1.length : Int)) = true := decide_eq_true c15
    clear c15
    obtain ⟨y340, hy340⟩ : ∃ y_ : List Int, y_ = (y338.set (((rd_T52 l1 x13_1).f1) : Int).toNat (wrap64 ((rd y338 ((rd_T52 l1 x13_1).f1)) + 1))) := ⟨_, rfl⟩
    replace H : (impl_quiddity.l0 k1 y340 l1 (l1.length : Int) (wrap64 (x13_1 + 1))) = some r := by first | (rw [hy340]; with_reducible exact H) | (have H2_ := (Option.bind_some _ _).symm.trans H; rw [hy340]; with_reducible exact H2_) | (have H2_ := (Option.bind_some _ _).symm.trans H; with_reducible exact H2_) | with_reducible exact H | (rw [hy340]; exact H) | exact H
    have Ny340 := Aside0.mk hy340
    clear hy340
    have H' := Aside0.mk H
    clear H
    have p335 : 0 ≤ (x13_1 : Int) := odt_
    have q335 : x13_1 < (l1.length : Int) := odt_
    obtain ⟨ad335, e335, hx335_0, hx335_1⟩ := at_T52 HR1.out x13_1 p335 q335
    cases e335
    (first | replace hx335_0 := (HB.out.cell (World.block_lt_of_cell? w _ hx335_0)).trans hx335_0 | skip)
    (first | replace hx335_1 := (HB.out.cell (World.block_lt_of_cell? w _ hx335_1)).trans hx335_1 | skip)
    replace p335 := eq_true p335
    replace q335 := eq_true q335
    go_wp2_with (first | ((with_reducible refine gate_dst (N := 7) rfl ?_); refine box_event ?hg (N := 7) ?hd (cs := #[.int .i64 0, .int .i64 0]) (t := 52) ?hr ?_; (case hd => rfl); (case hg => rfl); (case hr => first | (go_simp; done) | (go_simp; rfl)); intro gb336 hg w17 hbox hb; have n0_ := Aside0.mk (Kd.R_below (ra_ HO_5.out) hb); have n1_ := Aside0.mk (below_step blw_ hb); have n2_ := Aside0.mk (hbox); have n3_ := Aside0.mk ((by rw [hg]; exact (below_size blw_) : w.heap.size ≤ gb336)); have n4_ := Aside0.mk ((by rw [hg]; exact (below_size blw_) : w.heap.size ≤ gb336)); clear HO_5; clear HB; have HO_5 := n0_; have HB := n1_; have BK336 := n2_; have GW336 := n3_; have GE336 := n4_; clear n0_ n1_ n2_ n3_ n4_; clear hb hbox hg; have hcz18_0 : w17.cell? ⟨gb336, 0, none⟩ = some (.int .i64 0) := (blk_cell BK336.out 0).trans rfl; have hcz18_1 : w17.cell? ⟨gb336, 1, none⟩ = some (.int .i64 0) := (blk_cell BK336.out 1).trans rfl; have hfz18_0 := blk_frozen BK336.out 0; have hfz18_1 := blk_frozen BK336.out 1) | ((with_reducible refine gate_store (t := 52) (p := 7) rfl ?_); refine store_event (t := 52) (p := 7) (v := ?vo_w19) (w1 := ((w17.setCell ⟨gb336, 0, none⟩ (.int .i64 ((rd_T52 l1 x13_1).f0))).setCell ⟨gb336, 1, none⟩ (.int .i64 ((rd_T52 l1 x13_1).f1)))) ?hg ?ho ?hn ?hr ?_; (case ho => rfl); (case hg => rfl); (case hn => rfl); (case hr => first | (go_simp; done) | (go_simp; rfl)); intro w19 hw; have n0_ : Aside0 (Kd.R (Kd.int .i64) 3 w19 w.heap.size (fun _ => True) v333 x5_1) := ⟨(by rw [hw]; exact (by (with_reducible repeat (first | apply Kd.R_alloc | apply Kd.R_drewN | apply Kd.R_drew)); exact Kd.R_mono (Kd.R_far (p := ⟨gb336, 1, none⟩) (Kd.R_far (p := ⟨gb336, 0, none⟩) (Kd.R_types HO_5.out BK336.out (by decide)) (fun _ hk => hk.2) (.int .i64 ((rd_T52 l1 x13_1).f0))) (fun _ hk => hk.2) (.int .i64 ((rd_T52 l1 x13_1).f1))) (fun _ hk => trivial)))⟩; have n1_ : Aside0 (w19.heap[gb336]? = some (.cells #[.int .i64 ((rd_T52 l1 x13_1).f0), .int .i64 ((rd_T52 l1 x13_1).f1)] 52 (0, 0))) := ⟨(by rw [hw]; exact (by (with_reducible repeat (first | refine blk_drewN ?_ _ | refine blk_drew ?_ | refine blk_alloc ?_ _)); refine blk_put (cs := #[.int .i64 ((rd_T52 l1 x13_1).f0), .int .i64 0]) ?_ 1 _ rfl; (with_reducible repeat (first | refine blk_drewN ?_ _ | refine blk_drew ?_ | refine blk_alloc ?_ _)); refine blk_put (cs := #[.int .i64 0, .int .i64 0]) ?_ 0 _ rfl; (with_reducible repeat (first | refine blk_drewN ?_ _ | refine blk_drew ?_ | refine blk_alloc ?_ _)); exact BK336.out))⟩; have n2_ : Aside0 (Below w.heap.size w w19) := ⟨(by rw [hw]; exact bls_)⟩; clear hw; clear HO_5; clear BK336; clear HB; have HO_5 := n0_; have BK336 := n1_; have HB := n2_; clear n0_ n1_ n2_; have hcz20_0 : w19.cell? ⟨gb336, 0, none⟩ = some (.int .i64 ((rd_T52 l1 x13_1).f0)) := (blk_cell BK336.out 0).trans rfl; have hcz20_1 : w19.cell? ⟨gb336, 1, none⟩ = some (.int .i64 ((rd_T52 l1 x13_1).f1)) := (blk_cell BK336.out 1).trans rfl; have hfz20_0 := blk_frozen BK336.out 0; have hfz20_1 := blk_frozen BK336.out 1; obtain ⟨Ao21, co21, eo21⟩ := Kd.R_slice HO_5.out; subst eo21; have p337 : 0 ≤ (((rd_T52 l1 x13_1).f0) : Int) := odt_; have q337 : ((rd_T52 l1 x13_1).f0) < (x5_1.length : Int) := odt_; obtain ⟨ad337, e337, hx337_0⟩ := Kd.at_int (Kd.R_reads' HO_5.out).2.2 ((rd_T52 l1 x13_1).f0) p337 q337; cases e337; replace p337 := eq_true p337; replace q337 := eq_true q337; have p13 : 0 ≤ (((rd_T52 l1 x13_1).f0) : Int) := odt_; have q13 : (((rd_T52 l1 x13_1).f0) : Int) < ((x5_1.length : Int) : Int) := odt_; obtain ⟨go13, co13, eo13, gb13, gl13, cl13, HG13⟩ := Kd.R_form HO_5.out (by omega); (first | cases eo13 | (injection eo13 with ea_ en_ ec_; (first | subst ea_ | (injection ea_ with ea_; subst ea_)); subst ec_; clear en_)); have GB13 := Aside0.mk gb13; have GG13 := Aside0.mk HG13; clear gb13 gl13 HG13; (first | simp only [add_plain] at hx337_0 | skip); obtain ⟨hx13_0, hf13_0⟩ := Kd.R_celln 0 HO_5.out (((rd_T52 l1 x13_1).f0) : Int) p13 q13; replace p13 := eq_true p13; replace q13 := eq_true q13; obtain ⟨hy22_, hz22_⟩ := Kd.R_celln 0 HO_5.out (((rd_T52 l1 x13_1).f0) : Int) (odt_) (odt_); have HP22 := Kd.R_putg HO_5.out (((rd_T52 l1 x13_1).f0) : Int) (wrap64 ((rd x5_1 ((rd_T52 l1 x13_1).f0)) + 1))) | ((with_reducible refine gate_store (t := 3) (p := 23) rfl ?_); refine store_event (t := 3) (p := 23) (v := ?vo_w23) (w1 := (w19.setCell ⟨go13, (((rd_T52 l1 x13_1).f0) : Int).toNat, none⟩ (.int .i64 (wrap64 ((rd x5_1 ((rd_T52 l1 x13_1).f0)) + 1))))) ?hg ?ho ?hn ?hr ?_; (case ho => rfl); (case hg => rfl); (case hn => rfl); (case hr => first | (go_simp; done) | (go_simp; rfl)); intro w23 hw; have hg : w19.grownBy w23 (some go13) := (by rw [hw]; exact HP22.2); have hp_ : Kd.R (Kd.int .i64) 3 w23 w.heap.size (fun _ => True) (.slice (some ⟨go13, 0, none⟩) x5_1.length co21) y338 := (by rw [hw, Ny338.out]; exact HP22.1); clear HP22; have n0_ := Aside0.mk (hp_); have n1_ := Aside0.mk (blk_grown (g := gb336) (o := .cells #[.int .i64 ((rd_T52 l1 x13_1).f0), .int .i64 ((rd_T52 l1 x13_1).f1)] 52 (0, 0)) (bk_ BK336.out) hg (Kd.R_ne HO_5.out BK336.out (by decide))); have n2_ := Aside0.mk ((by rw [hw]; exact below_set (HB.out) GB13.out : Below w.heap.size w w23)); clear HO_5; clear BK336; clear HB; have HO_5 := n0_; have BK336 := n1_; have HB := n2_; clear n0_ n1_ n2_; clear hg hw hp_; have hcz24_0 : w23.cell? ⟨gb336, 0, none⟩ = some (.int .i64 ((rd_T52 l1 x13_1).f0)) := (blk_cell BK336.out 0).trans rfl; have hcz24_1 : w23.cell? ⟨gb336, 1, none⟩ = some (.int .i64 ((rd_T52 l1 x13_1).f1)) := (blk_cell BK336.out 1).trans rfl; have hfz24_0 := blk_frozen BK336.out 0; have hfz24_1 := blk_frozen BK336.out 1; have p339 : 0 ≤ (((rd_T52 l1 x13_1).f1) : Int) := odt_; have q339 : ((rd_T52 l1 x13_1).f1) < (y338.length : Int) := (by have h_ : (((rd_T52 l1 x13_1).f1) : Int) < ((x5_1.length : Int) : Int) := odt_; first | (have e_ := (Kd.R_reads' HO_5.out).1; omega) | simpa only [Ny338.out, List.length_set] using h_); have ql339 : ((((rd_T52 l1 x13_1).f1) : Int) < ((x5_1.length : Int) : Int)) = True := eq_true (odt_); obtain ⟨ad339, e339, hx339_0⟩ := Kd.at_int (Kd.R_reads' HO_5.out).2.2 ((rd_T52 l1 x13_1).f1) p339 q339; obtain rfl : (⟨go13, 0, none⟩ : Addr) = ad339 := (by injection e339); (first | simp only [add_plain] at hx339_0 | simp only [add_at] at hx339_0 | simp only [Addr.add, Nat.zero_add] at hx339_0 | skip); replace p339 := eq_true p339; replace q339 := eq_true q339; have p16 : 0 ≤ (((rd_T52 l1 x13_1).f1) : Int) := odt_; have q16 : (((rd_T52 l1 x13_1).f1) : Int) < ((x5_1.length : Int) : Int) := odt_; obtain ⟨hx16_0, hf16_0⟩ := Kd.R_celln 0 HO_5.out (((rd_T52 l1 x13_1).f1) : Int) p16 q16; replace p16 := eq_true p16; replace q16 := eq_true q16; obtain ⟨hy25_, hz25_⟩ := Kd.R_celln 0 HO_5.out (((rd_T52 l1 x13_1).f1) : Int) (odt_) (odt_); have HP25 := Kd.R_putg HO_5.out (((rd_T52 l1 x13_1).f1) : Int) (wrap64 ((rd y338 ((rd_T52 l1 x13_1).f1)) + 1))) | ((with_reducible refine gate_store (t := 3) (p := 30) rfl ?_); refine store_event (t := 3) (p := 30) (v := ?vo_w26) (w1 := (w23.setCell ⟨go13, (((rd_T52 l1 x13_1).f1) : Int).toNat, none⟩ (.int .i64 (wrap64 ((rd y338 ((rd_T52 l1 x13_1).f1)) + 1))))) ?hg ?ho ?hn ?hr ?_; (case ho => rfl); (case hg => rfl); (case hn => rfl); (case hr => first | (go_simp; done) | (go_simp; rfl)); intro w26 hw; have hg : w23.grownBy w26 (some go13) := (by rw [hw]; exact HP25.2); have hp_ : Kd.R (Kd.int .i64) 3 w26 w.heap.size (fun _ => True) (.slice (some ⟨go13, 0, none⟩) x5_1.length co21) y340 := (by rw [hw, Ny340.out]; exact HP25.1); clear HP25; have n0_ := Aside0.mk (hp_); have n1_ := Aside0.mk (blk_grown (g := gb336) (o := .cells #[.int .i64 ((rd_T52 l1 x13_1).f0), .int .i64 ((rd_T52 l1 x13_1).f1)] 52 (0, 0)) (bk_ BK336.out) hg (Kd.R_ne HO_5.out BK336.out (by decide))); have n2_ := Aside0.mk ((by rw [hw]; exact below_set (HB.out) GB13.out : Below w.heap.size w w26)); clear HO_5; clear BK336; clear HB; have HO_5 := n0_; have BK336 := n1_; have HB := n2_; clear n0_ n1_ n2_; clear hg hw hp_))
    go_roundg k1
    case measure => have := HK1.out; omega
    case rel => exact ⟨(y340), (wrap64 (x13_1 + 1)), rsd_, H', ⟨by have := HK1.out; omega⟩, ⟨ra_ HO_5.out⟩, ⟨bls_⟩⟩
   ·rw [if_neg c8] at H
    have c8b0 : decide (x13_1 < (l1.length : Int)) = false := decide_eq_false c8
    clear c8
    obtain rfl := Option.some.inj H
    go_wp2
    go_ret
    exact ⟨_, by first | rfl | (simp [errW_none, errW_some] <;> rfl) | (simp [*, errW_none, errW_some] <;> rfl), by (with_reducible repeat (first | apply Kd.R_alloc | apply Kd.R_drewN | apply Kd.R_drew)); exact HO_5.out, blw_⟩

/-! ### cmp_isNaN_int: function 110 -/
def cmp_isNaN_int.f (a0 : Int) : Option (Bool) := some (a0 != a0)
set_option maxHeartbeats 8000000 in
set_option maxRecDepth 100000 in
theorem cmp_isNaN_int.calls (a0 : Int) (r : Bool) (w : World) (h : cmp_isNaN_int.f a0 = some r) :
  Calls Try.prog 110 #[.int .i64 a0] w fun e w' => e = .returned (.bool r) ∧ Drawn0 w w' := by
 have H : (some (a0 != a0)) = some r := h
 clear h
 obtain rfl := Option.some.inj H
 go_enter Try.func110, Try.ntmps110
 go_wp2
 go_ret
 exact dr_

/-! ### cmp_Compare_int: function 78 -/
def cmp_Compare_int.f (a0 : Int) (a1 : Int) : Option (Int) := (cmp_isNaN_int.f a0).bind fun t341 => ((cmp_isNaN_int.f a1).bind fun t342 => (if t341 = true then (if t342 = true then (some 0) else (some (-1))) else (if t342 = true then (some 1) else (if a0 < a1 then (some (-1)) else (if a0 > a1 then (some 1) else (some 0))))))
set_option maxHeartbeats 8000000 in
set_option maxRecDepth 100000 in
theorem cmp_Compare_int.calls (a0 : Int) (a1 : Int) (r : Int) (w : World) (h : cmp_Compare_int.f a0 a1 = some r) :
  Calls Try.prog 78 #[.int .i64 a0, .int .i64 a1] w fun e w' => e = .returned (.int .i64 r) ∧ Drawn0 w w' := by
 have H : ((cmp_isNaN_int.f a0).bind fun t341 => ((cmp_isNaN_int.f a1).bind fun t342 => (if t341 = true then (if t342 = true then (some 0) else (some (-1))) else (if t342 = true then (some 1) else (if a0 < a1 then (some (-1)) else (if a0 > a1 then (some 1) else (some 0))))))) = some r := h
 clear h
 replace H := Option.bind_eq_some_iff.mp H
 obtain ⟨t341, A30, H⟩ := H
 replace H : ((cmp_isNaN_int.f a1).bind fun t342 => (if t341 = true then (if t342 = true then (some 0) else (some (-1))) else (if t342 = true then (some 1) else (if a0 < a1 then (some (-1)) else (if a0 > a1 then (some 1) else (some 0)))))) = some r := H
 have A3 := Aside0.mk A30
 clear A30
 replace H := Option.bind_eq_some_iff.mp H
 obtain ⟨t342, A40, H⟩ := H
 replace H : (if t341 = true then (if t342 = true then (some 0) else (some (-1))) else (if t342 = true then (some 1) else (if a0 < a1 then (some (-1)) else (if a0 > a1 then (some 1) else (some 0))))) = some r := H
 have A4 := Aside0.mk A40
 clear A40
 by_cases c5 : t341 = true
 ·subst c5
  have H1 : (if t342 = true then (some 0) else (some (-1))) = some r := by rw [if_pos rfl] at H; exact H
  clear H
  have H := H1
  clear H1
  by_cases c6 : t342 = true
  ·subst c6
   have H1 : (some 0) = some r := by rw [if_pos rfl] at H; exact H
   clear H
   have H := H1
   clear H1
   obtain rfl := Option.some.inj H
   go_enter Try.func78, Try.ntmps78
   go_wp2_with (first | ((with_reducible refine gate_callee (f := 110) rfl ?_); refine goesL_ (some 8) rfl rfl Try.func110 (by kernel_rfl) rfl #[.int .i64 a0] rfl amp_ ?_; (with_reducible refine (cmp_isNaN_int.calls a0 true _ A3.out).mono ?_); rintro e w' ⟨rfl, ⟨nd, rfl⟩⟩; refine ⟨_, rfl, ?_⟩) | ((with_reducible refine gate_callee (f := 110) rfl ?_); refine goesL_ (some 10) rfl rfl Try.func110 (by kernel_rfl) rfl #[.int .i64 a1] rfl amp_ ?_; (with_reducible refine (cmp_isNaN_int.calls a1 true _ A4.out).mono ?_); rintro e w' ⟨rfl, ⟨nd, rfl⟩⟩; refine ⟨_, rfl, ?_⟩))
   go_ret
   exact dr_
  ·replace c6 := Bool.eq_false_iff.mpr c6
   subst c6
   have H1 : (some (-1)) = some r := by rw [if_neg (show ¬ (false = true) by decide)] at H; exact H
   clear H
   have H := H1
   clear H1
   obtain rfl := Option.some.inj H
   go_enter Try.func78, Try.ntmps78
   go_wp2_with (first | ((with_reducible refine gate_callee (f := 110) rfl ?_); refine goesL_ (some 8) rfl rfl Try.func110 (by kernel_rfl) rfl #[.int .i64 a0] rfl amp_ ?_; (with_reducible refine (cmp_isNaN_int.calls a0 true _ A3.out).mono ?_); rintro e w' ⟨rfl, ⟨nd, rfl⟩⟩; refine ⟨_, rfl, ?_⟩) | ((with_reducible refine gate_callee (f := 110) rfl ?_); refine goesL_ (some 10) rfl rfl Try.func110 (by kernel_rfl) rfl #[.int .i64 a1] rfl amp_ ?_; (with_reducible refine (cmp_isNaN_int.calls a1 false _ A4.out).mono ?_); rintro e w' ⟨rfl, ⟨nd, rfl⟩⟩; refine ⟨_, rfl, ?_⟩))
   go_ret
   exact dr_
 ·replace c5 := Bool.eq_false_iff.mpr c5
  subst c5
  have H1 : (if t342 = true then (some 1) else (if a0 < a1 then (some (-1)) else (if a0 > a1 then (some 1) else (some 0)))) = some r := by rw [if_neg (show ¬ (false = true) by decide)] at H; exact H
  clear H
  have H := H1
  clear H1
  by_cases c7 : t342 = true
  ·subst c7
   have H1 : (some 1) = some r := by rw [if_pos rfl] at H; exact H
   clear H
   have H := H1
   clear H1
   obtain rfl := Option.some.inj H
   go_enter Try.func78, Try.ntmps78
   go_wp2_with (first | ((with_reducible refine gate_callee (f := 110) rfl ?_); refine goesL_ (some 8) rfl rfl Try.func110 (by kernel_rfl) rfl #[.int .i64 a0] rfl amp_ ?_; (with_reducible refine (cmp_isNaN_int.calls a0 false _ A3.out).mono ?_); rintro e w' ⟨rfl, ⟨nd, rfl⟩⟩; refine ⟨_, rfl, ?_⟩) | ((with_reducible refine gate_callee (f := 110) rfl ?_); refine goesL_ (some 10) rfl rfl Try.func110 (by kernel_rfl) rfl #[.int .i64 a1] rfl amp_ ?_; (with_reducible refine (cmp_isNaN_int.calls a1 true _ A4.out).mono ?_); rintro e w' ⟨rfl, ⟨nd, rfl⟩⟩; refine ⟨_, rfl, ?_⟩))
   go_ret
   exact dr_
  ·replace c7 := Bool.eq_false_iff.mpr c7
   subst c7
   have H1 : (if a0 < a1 then (some (-1)) else (if a0 > a1 then (some 1) else (some 0))) = some r := by rw [if_neg (show ¬ (false = true) by decide)] at H; exact H
   clear H
   have H := H1
   clear H1
   by_cases c8 : a0 < a1
   ·rw [if_pos c8] at H
    have c8b0 : decide (a0 < a1) = true := decide_eq_true c8
    clear c8
    obtain rfl := Option.some.inj H
    go_enter Try.func78, Try.ntmps78
    go_wp2_with (first | ((with_reducible refine gate_callee (f := 110) rfl ?_); refine goesL_ (some 8) rfl rfl Try.func110 (by kernel_rfl) rfl #[.int .i64 a0] rfl amp_ ?_; (with_reducible refine (cmp_isNaN_int.calls a0 false _ A3.out).mono ?_); rintro e w' ⟨rfl, ⟨nd, rfl⟩⟩; refine ⟨_, rfl, ?_⟩) | ((with_reducible refine gate_callee (f := 110) rfl ?_); refine goesL_ (some 10) rfl rfl Try.func110 (by kernel_rfl) rfl #[.int .i64 a1] rfl amp_ ?_; (with_reducible refine (cmp_isNaN_int.calls a1 false _ A4.out).mono ?_); rintro e w' ⟨rfl, ⟨nd, rfl⟩⟩; refine ⟨_, rfl, ?_⟩))
    go_ret
    exact dr_
   ·rw [if_neg c8] at H
    have c8b0 : decide (a0 < a1) = false := decide_eq_false c8
    clear c8
    by_cases c9 : a0 > a1
    ·rw [if_pos c9] at H
     have c9b0 : decide (a1 < a0) = true := decide_eq_true c9
     clear c9
     obtain rfl := Option.some.inj H
     go_enter Try.func78, Try.ntmps78
     go_wp2_with (first | ((with_reducible refine gate_callee (f := 110) rfl ?_); refine goesL_ (some 8) rfl rfl Try.func110 (by kernel_rfl) rfl #[.int .i64 a0] rfl amp_ ?_; (with_reducible refine (cmp_isNaN_int.calls a0 false _ A3.out).mono ?_); rintro e w' ⟨rfl, ⟨nd, rfl⟩⟩; refine ⟨_, rfl, ?_⟩) | ((with_reducible refine gate_callee (f := 110) rfl ?_); refine goesL_ (some 10) rfl rfl Try.func110 (by kernel_rfl) rfl #[.int .i64 a1] rfl amp_ ?_; (with_reducible refine (cmp_isNaN_int.calls a1 false _ A4.out).mono ?_); rintro e w' ⟨rfl, ⟨nd, rfl⟩⟩; refine ⟨_, rfl, ?_⟩))
     go_ret
     exact dr_
    ·rw [if_neg c9] at H
     have c9b0 : decide (a1 < a0) = false := decide_eq_false c9
     clear c9
     obtain rfl := Option.some.inj H
     go_enter Try.func78, Try.ntmps78
     go_wp2_with (first | ((with_reducible refine gate_callee (f := 110) rfl ?_); refine goesL_ (some 8) rfl rfl Try.func110 (by kernel_rfl) rfl #[.int .i64 a0] rfl amp_ ?_; (with_reducible refine (cmp_isNaN_int.calls a0 false _ A3.out).mono ?_); rintro e w' ⟨rfl, ⟨nd, rfl⟩⟩; refine ⟨_, rfl, ?_⟩) | ((with_reducible refine gate_callee (f := 110) rfl ?_); refine goesL_ (some 10) rfl rfl Try.func110 (by kernel_rfl) rfl #[.int .i64 a1] rfl amp_ ?_; (with_reducible refine (cmp_isNaN_int.calls a1 false _ A4.out).mono ?_); rintro e w' ⟨rfl, ⟨nd, rfl⟩⟩; refine ⟨_, rfl, ?_⟩))
     go_ret
     exact dr_

/-! ### slices_Compare_int_int: function 55 -/
def slices_Compare_int_int.l0 : Nat → List Int → List Int → List Int → Int → Int → Option (Int)
 | 0, _, _, _, _, _ => none
 | k + 1, x0, x1, x9, x10, x11 => if x11 < x10 then (if 0 ≤ x11 then (if x11 < (x9.length : Int) then (if x11 ≥ (x1.length : Int) then (some 1) else (if x11 < (x1.length : Int) then ((cmp_Compare_int.f (rd x9 x11) (rd x1 x11)).bind fun t345 => (if t345 = 0 then (slices_Compare_int_int.l0 k x0 x1 x9 x10 (wrap64 (x11 + 1))) else (some t345))) else (none))) else (none)) else (none)) else (if (x0.length : Int) < (x1.length : Int) then (some (-1)) else (some 0))
def slices_Compare_int_int.f (k : Nat) (l0 : List Int) (l1 : List Int) : Option (Int) := slices_Compare_int_int.l0 k l0 l1 l0 (l0.length : Int) 0
theorem slices_Compare_int_int.mono_l : ∀ k, (∀ y0 y1 y2 y3 y4, LeO (slices_Compare_int_int.l0 k y0 y1 y2 y3 y4) (slices_Compare_int_int.l0 (k + 1) y0 y1 y2 y3 y4))
 | 0 => fun _ _ _ _ _ r h => by simp [slices_Compare_int_int.l0] at h
 | k + 1 => by
  have ih0 := slices_Compare_int_int.mono_l k
  ·intro y0 y1 y2 y3 y4
   unfold slices_Compare_int_int.l0
   repeat' first
   | (with_reducible exact ih0 _ _ _ _ _)
   | (with_reducible exact LeO.refl _)
   | (with_reducible exact LeO.none _)
   | (with_reducible refine LeO.ite ?_ ?_)
   | (with_reducible refine LeO.bind ?_ (fun _ => ?_))
   | exact ih0 _ _ _ _ _
   | exact LeO.none _
   | refine LeO.ite ?_ ?_
   | refine LeO.bind ?_ (fun _ => ?_)
theorem slices_Compare_int_int.mono : ∀ a0 a1 k, LeO (slices_Compare_int_int.f k a0 a1) (slices_Compare_int_int.f (k + 1) a0 a1) := by
 intro a0 a1 k
 have ih0 := slices_Compare_int_int.mono_l k
 unfold slices_Compare_int_int.f
 repeat' first
   | (with_reducible exact ih0 _ _ _ _ _)
   | (with_reducible exact LeO.refl _)
   | (with_reducible exact LeO.none _)
   | (with_reducible refine LeO.ite ?_ ?_)
   | (with_reducible refine LeO.bind ?_ (fun _ => ?_))
   | exact ih0 _ _ _ _ _
   | exact LeO.none _
   | refine LeO.ite ?_ ?_
   | refine LeO.bind ?_ (fun _ => ?_)
set_option maxHeartbeats 8000000 in
set_option maxRecDepth 100000 in
theorem slices_Compare_int_int.calls (k : Nat) (A0 : Option Addr) (c0 : Nat) (l0 : List Int) (A1 : Option Addr) (c1 : Nat) (l1 : List Int) (r : Int) (w : World) (hr0 : Kd.C (Kd.int .i64) w A0 l0.length l0) (hc0 : l0.length ≤ c0) (hr1 : Kd.C (Kd.int .i64) w A1 l1.length l1) (hc1 : l1.length ≤ c1) (h : slices_Compare_int_int.f k l0 l1 = some r) :
  Calls Try.prog 55 #[.slice A0 l0.length c0, .slice A1 l1.length c1] w fun e w' => e = .returned (.int .i64 r) ∧ Drawn0 w w' := by
 have HR0 := Aside0.mk hr0
 have HC0 := Aside0.mk hc0
 clear hr0 hc0
 have HR1 := Aside0.mk hr1
 have HC1 := Aside0.mk hc1
 clear hr1 hc1
 have H : (slices_Compare_int_int.l0 k l0 l1 l0 (l0.length : Int) 0) = some r := h
 clear h
 have H' := Aside0.mk H
 clear H
 go_enter Try.func55, Try.ntmps55
 go_wp2
 go_loopg [11] k (fun kq v11 w' => ∃ (x11_1 : Int), v11 = .int .i64 x11_1 ∧ Aside0 (slices_Compare_int_int.l0 kq l0 l1 l0 (l0.length : Int) x11_1 = some r) ∧ Aside0 (kq ≤ k) ∧ Drawn0 w w')
 case atStart => exact ⟨(0), rsd_, H', ⟨Nat.le_refl _⟩, by repeat (first | exact Drawn0.refl _ | apply Drawn0.step)⟩
 case round =>
  clear H'
  try clear c1
  try clear p2
  obtain ⟨x11_1, rfl, HA, HK1, ⟨m1, rfl⟩⟩ := hrel
  cases gk with
  | zero => exact absurd HA.out (by simp [slices_Compare_int_int.l0])
  | succ k1 =>
   have H := HA.out
   clear HA
   simp only [slices_Compare_int_int.l0] at H
   by_cases c3 : x11_1 < (l0.length : Int)
   ·rw [if_pos c3] at H
    have c3b0 : decide (x11_1 < (l0.length : Int)) = true := decide_eq_true c3
    clear c3
    by_cases c4 : 0 ≤ x11_1
    case neg=>rw [if_neg c4] at H;exact absurd H (by simp)
    rw [if_pos c4] at H
    have c4b0 : decide (0 ≤ x11_1) = true := decide_eq_true c4
    clear c4
    by_cases c5 : x11_1 < (l0.length : Int)
    case neg=>rw [if_neg c5] at H;exact absurd H (by simp)
    rw [if_pos c5] at H
    have c5b0 : decide (x11_1 < (l0.length : Int)) = true := decide_eq_true c5
    clear c5
    by_cases c6 : x11_1 ≥ (l1.length : Int)
    ·rw [if_pos c6] at H
     have c6b0 : decide ((l1.length : Int) ≤ x11_1) = true := decide_eq_true c6
     clear c6
     obtain rfl := Option.some.inj H
     have p343 : 0 ≤ (x11_1 : Int) := odt_
     have q343 : x11_1 < (l0.length : Int) := odt_
     obtain ⟨ad343, e343, hx343_0⟩ := Kd.at_int HR0.out x11_1 p343 q343
     cases e343
     replace p343 := eq_true p343
     replace q343 := eq_true q343
     go_wp2
     go_ret
     exact dr_
    ·rw [if_neg c6] at H
     have c6b0 : decide ((l1.length : Int) ≤ x11_1) = false := decide_eq_false c6
     clear c6
     by_cases c7 : x11_1 < (l1.length : Int)
     case neg=>rw [if_neg c7] at H;exact absurd H (by simp)
     rw [if_pos c7] at H
     have c7b0 : decide (x11_1 < (l1.length : Int)) = true := decide_eq_true c7
     clear c7
     replace H := Option.bind_eq_some_iff.mp H
     obtain ⟨t345, A80, H⟩ := H
     replace H : (if t345 = 0 then (slices_Compare_int_int.l0 k1 l0 l1 l0 (l0.length : Int) (wrap64 (x11_1 + 1))) else (some t345)) = some r := H
     have A8 := Aside0.mk A80
     clear A80
     by_cases c9 : t345 = 0
     ·rw [if_pos c9] at H
      have c9b0 : (t345 == 0) = true := beq_iff_eq.mpr c9
      have c9b1 : (t345 != 0) = false := bne_eq_false_iff_eq.mpr c9
      clear c9
      have H' := Aside0.mk H
      clear H
      have p343 : 0 ≤ (x11_1 : Int) := odt_
      have q343 : x11_1 < (l0.length : Int) := odt_
      obtain ⟨ad343, e343, hx343_0⟩ := Kd.at_int HR0.out x11_1 p343 q343
      cases e343
      replace p343 := eq_true p343
      replace q343 := eq_true q343
      have p344 : 0 ≤ (x11_1 : Int) := odt_
      have q344 : x11_1 < (l1.length : Int) := odt_
      obtain ⟨ad344, e344, hx344_0⟩ := Kd.at_int HR1.out x11_1 p344 q344
      cases e344
      replace p344 := eq_true p344
      replace q344 := eq_true q344
      go_wp2_with (first | ((with_reducible refine gate_callee (f := 78) rfl ?_); refine goesL_ (some 26) rfl rfl Try.func78 (by kernel_rfl) rfl #[.int .i64 (rd l0 x11_1), .int .i64 (rd l1 x11_1)] rfl amp_ ?_; (with_reducible refine (cmp_Compare_int.calls (rd l0 x11_1) (rd l1 x11_1) t345 _ A8.out).mono ?_); rintro e w' ⟨rfl, ⟨nd, rfl⟩⟩; refine ⟨_, rfl, ?_⟩))
      go_roundg k1
      case measure => have := HK1.out; omega
      case rel => exact ⟨(wrap64 (x11_1 + 1)), rsd_, H', ⟨by have := HK1.out; omega⟩, by repeat (first | exact Drawn0.refl _ | apply Drawn0.step)⟩
     ·rw [if_neg c9] at H
      have c9b0 : (t345 == 0) = false := beq_eq_false_iff_ne.mpr c9
      have c9b1 : (t345 != 0) = true := bne_iff_ne.mpr c9
      obtain rfl := Option.some.inj H
      have p343 : 0 ≤ (x11_1 : Int) := odt_
      have q343 : x11_1 < (l0.length : Int) := odt_
      obtain ⟨ad343, e343, hx343_0⟩ := Kd.at_int HR0.out x11_1 p343 q343
      cases e343
      replace p343 := eq_true p343
      replace q343 := eq_true q343
      have p344 : 0 ≤ (x11_1 : Int) := odt_
      have q344 : x11_1 < (l1.length : Int) := odt_
      obtain ⟨ad344, e344, hx344_0⟩ := Kd.at_int HR1.out x11_1 p344 q344
      cases e344
      replace p344 := eq_true p344
      replace q344 := eq_true q344
      go_wp2_with (first | ((with_reducible refine gate_callee (f := 78) rfl ?_); refine goesL_ (some 26) rfl rfl Try.func78 (by kernel_rfl) rfl #[.int .i64 (rd l0 x11_1), .int .i64 (rd l1 x11_1)] rfl amp_ ?_; (with_reducible refine (cmp_Compare_int.calls (rd l0 x11_1) (rd l1 x11_1) t345 _ A8.out).mono ?_); rintro e w' ⟨rfl, ⟨nd, rfl⟩⟩; refine ⟨_, rfl, ?_⟩))
      go_ret
      exact dr_
   ·rw [if_neg c3] at H
    have c3b0 : decide (x11_1 < (l0.length : Int)) = false := decide_eq_false c3
    clear c3
    by_cases c10 : (l0.length : Int) < (l1.length : Int)
    ·rw [if_pos c10] at H
     have c10b0 : decide ((l0.length : Int) < (l1.length : Int)) = true := decide_eq_true c10
     have c10b1 : decide (l0.length < l1.length) = true := decide_eq_true (Int.ofNat_lt.mp c10)
     clear c10
     obtain rfl := Option.some.inj H
     go_wp2
     go_ret
     exact dr_
    ·rw [if_neg c10] at H
     have c10b0 : decide ((l0.length : Int) < (l1.length : Int)) = false := decide_eq_false c10
     have c10b1 : decide (l0.length < l1.length) = false := decide_eq_false (fun h => c10 (Int.ofNat_lt.mpr h))
     clear c10
     obtain rfl := Option.some.inj H
     go_wp2
     go_ret
     exact dr_

end Go.Proofs.Ytgblginphicacaa.PFnExactRankOfQuiddity
