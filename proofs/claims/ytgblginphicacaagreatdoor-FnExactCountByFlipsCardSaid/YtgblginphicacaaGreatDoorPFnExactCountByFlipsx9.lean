-- WRITTEN BY A PROGRAM OF THIS WORK (wip/tools/ppatch.py) for this claim.
import Derived.Test.YtgblginphicacaaGreatDoorPFnExactCountByFlipsx0
import Derived.Test.YtgblginphicacaaGreatDoorPFnExactCountByFlipsx5
import Derived.Test.YtgblginphicacaaGreatDoorPFnExactCountByFlipsx6
import Derived.Test.YtgblginphicacaaGreatDoorPFnExactCountByFlipsx8
namespace Go.Proofs.YtgblginphicacaaGreatDoor.PFnExactCountByFlips
open Go.RowKit Go.Proofs.YtgblginphicacaaGreatDoorW.PrintWords Go.Proofs.YtgblginphicacaaGreatDoorW.PrintLast Go.Proofs.YtgblginphicacaaGreatDoorW.PrintMore
attribute [local go_sem] max2_int min2_int max_two min_two max_three min_three max_four min_four   -- for this text's walks alone
set_option linter.unusedVariables false
set_option linter.unusedSimpArgs false

/-! ### spec_flAll: function 40 -/
def spec_flAll.l0 : Nat → Int → List (S38) → List (List (S38)) → List (S38) → Int → Int → Option ((List (List (S38))))
 | 0, _, _, _, _, _, _ => none
 | k + 1, x0, x1, x5, x8, x9, x10 => if x10 < x9 then (if 0 ≤ x10 then (if x10 < (x8.length : Int) then ((spec_flMake.f k x0 x1 ((rd_T38 x8 x10).f0) ((rd_T38 x8 x10).f1)).bind fun t205 => (if x5.length < 5864062014805 then (spec_flAll.l0 k x0 x1 (x5 ++ [t205]) x8 x9 (wrap64 (x10 + 1))) else (none))) else (none)) else (none)) else (some x5)
def spec_flAll.f (k : Nat) (a0 : Int) (l1 : List (S38)) : Option ((List (List (S38)))) := spec_flAll.l0 k a0 l1 ([] : List (List (S38))) l1 (l1.length : Int) 0
theorem spec_flAll.mono_l : ∀ k, (∀ y0 y1 y2 y3 y4 y5, LeO (spec_flAll.l0 k y0 y1 y2 y3 y4 y5) (spec_flAll.l0 (k + 1) y0 y1 y2 y3 y4 y5))
 | 0 => fun _ _ _ _ _ _ r h => by simp [spec_flAll.l0] at h
 | k + 1 => by
  have ih0 := spec_flAll.mono_l k
  ·intro y0 y1 y2 y3 y4 y5
   unfold spec_flAll.l0
   repeat' first
   | (with_reducible exact ih0 _ _ _ _ _ _)
   | (with_reducible exact spec_flMake.mono _ _ _ _ _)
   | (with_reducible exact LeO.refl _)
   | (with_reducible exact LeO.none _)
   | (with_reducible refine LeO.ite ?_ ?_)
   | (with_reducible refine LeO.bind ?_ (fun _ => ?_))
   | exact ih0 _ _ _ _ _ _
   | exact spec_flMake.mono _ _ _ _ _
   | exact LeO.none _
   | refine LeO.ite ?_ ?_
   | refine LeO.bind ?_ (fun _ => ?_)
theorem spec_flAll.mono : ∀ a0 a1 k, LeO (spec_flAll.f k a0 a1) (spec_flAll.f (k + 1) a0 a1) := by
 intro a0 a1 k
 have ih0 := spec_flAll.mono_l k
 unfold spec_flAll.f
 repeat' first
   | (with_reducible exact ih0 _ _ _ _ _ _)
   | (with_reducible exact spec_flMake.mono _ _ _ _ _)
   | (with_reducible exact LeO.refl _)
   | (with_reducible exact LeO.none _)
   | (with_reducible refine LeO.ite ?_ ?_)
   | (with_reducible refine LeO.bind ?_ (fun _ => ?_))
   | exact ih0 _ _ _ _ _ _
   | exact spec_flMake.mono _ _ _ _ _
   | exact LeO.none _
   | refine LeO.ite ?_ ?_
   | refine LeO.bind ?_ (fun _ => ?_)
set_option maxHeartbeats 8000000 in
set_option maxRecDepth 100000 in
theorem spec_flAll.calls (k : Nat) (a0 : Int) (A1 : Option Addr) (c1 : Nat) (l1 : List (S38)) (r : List (List (S38))) (w : World) (hr1 : Kd.C k38 w A1 l1.length l1) (hc1 : l1.length ≤ c1) (h : spec_flAll.f k a0 l1 = some r) :
  Calls Tryz.prog 40 #[.int .i64 a0, .slice A1 l1.length c1] w fun e w' => ∃ v0_ : Value, e = .returned (v0_) ∧ Kd.S (Kd.slice 38 k38) 27 w' w.heap.size (fun _ => True) v0_ r ∧ Below w.heap.size w w' := by
 have hu38 := Tryz.underlying38
 have HR1 := Aside0.mk hr1
 have HC1 := Aside0.mk hc1
 clear hr1 hc1
 have HB := Aside0.mk (Below.refl w.heap.size w)
 have H : (spec_flAll.l0 k a0 l1 ([] : List (List (S38))) l1 (l1.length : Int) 0) = some r := h
 clear h
 have H' := Aside0.mk H
 clear H
 go_enter Tryz.func40, Tryz.ntmps40
 go_wp2
 go_loopg [5, 10] k (fun kq v5 v10 w' => ∃ (x5_1 : List (List (S38))) (x10_1 : Int), v10 = .int .i64 x10_1 ∧ Aside0 (spec_flAll.l0 kq a0 l1 x5_1 l1 (l1.length : Int) x10_1 = some r) ∧ Aside0 (kq ≤ k) ∧ Aside0 (Kd.S (Kd.slice 38 k38) 27 w' w.heap.size (fun _ => True) v5 x5_1) ∧ Aside0 (Below w.heap.size w w'))
 case atStart => exact ⟨(([] : List (List (S38)))), (0), rsd_, H', ⟨Nat.le_refl _⟩, ⟨by first | exact Kd.S_nil _ _ _ _ _ | exact Kd.N_nil _ _ _ _ _ | exact Kd.V_nil _ _ _ _ _ | exact Kd.Q_nil _ _ _ _ _ | exact Kd.R_nil _ _ _ _ _⟩, ⟨blw_⟩⟩
 case round =>
  clear H'
  try clear c1
  try clear p2
  try clear HO_5
  obtain ⟨x5_1, x10_1, rfl, HA, HK1, HO_5, HB⟩ := hrel
  cases gk with
  | zero => exact absurd HA.out (by simp [spec_flAll.l0])
  | succ k1 =>
   have H := HA.out
   clear HA
   simp only [spec_flAll.l0] at H
   by_cases c3 : x10_1 < (l1.length : Int)
   ·rw [if_pos c3] at H
    have c3b0 : decide (x10_1 < (l1.length : Int)) = true := decide_eq_true c3
    clear c3
    by_cases c4 : 0 ≤ x10_1
    case neg=>rw [if_neg c4] at H;exact absurd H (by simp)
    rw [if_pos c4] at H
    have c4b0 : decide (0 ≤ x10_1) = true := decide_eq_true c4
    clear c4
    by_cases c5 : x10_1 < (l1.length : Int)
    case neg=>rw [if_neg c5] at H;exact absurd H (by simp)
    rw [if_pos c5] at H
    have c5b0 : decide (x10_1 < (l1.length : Int)) = true := decide_eq_true c5
    clear c5
    replace H := Option.bind_eq_some_iff.mp H
    obtain ⟨t205, A60, H⟩ := H
    replace H : (if x5_1.length < 5864062014805 then (spec_flAll.l0 k1 a0 l1 (x5_1 ++ [t205]) l1 (l1.length : Int) (wrap64 (x10_1 + 1))) else (none)) = some r := H
    have A6 := Aside0.mk A60
    clear A60
    by_cases c7 : x5_1.length < 5864062014805
    case neg=>rw [if_neg c7] at H;exact absurd H (by simp)
    rw [if_pos c7] at H
    have LMc7 := Aside0.mk c7
    clear c7
    obtain ⟨y208, hy208⟩ : ∃ y_ : List (List (S38)), y_ = (x5_1 ++ [t205]) := ⟨_, rfl⟩
    replace H : (spec_flAll.l0 k1 a0 l1 y208 l1 (l1.length : Int) (wrap64 (x10_1 + 1))) = some r := hyy_ hy208 H
    have Ny208 := Aside0.mk hy208
    clear hy208
    have H' := Aside0.mk H
    clear H
    have p203 : 0 ≤ (x10_1 : Int) := odt_
    have q203 : x10_1 < (l1.length : Int) := odt_
    obtain ⟨ad203, e203, hx203_0, hx203_1⟩ := at_T38 HR1.out x10_1 p203 q203
    cases e203
    (first | replace hx203_0 := (HB.out.cell (World.block_lt_of_cell? w _ hx203_0)).trans hx203_0 | skip)
    (first | replace hx203_1 := (HB.out.cell (World.block_lt_of_cell? w _ hx203_1)).trans hx203_1 | skip)
    replace p203 := eq_true p203
    replace q203 := eq_true q203
    go_wp2_with (first | ((with_reducible refine gate_dst (N := 7) rfl ?_); refine bxe_ 7 #[.int .i64 0, .int .i64 0] 38 ?_; intro gb204 hg w8 hbox hb; have BK204 := Aside0.mk (hbox); have GW204 := gz_ w hg; have GE204 := gz_ w hg; replace HO_5 := Aside0.mk (Kd.S_below (Kd.S_elderB (sa_ HO_5.out) gb204 (Nat.le_of_eq hg.symm)) hb); replace HB := Aside0.mk (below_step blw_ hb); clear hb hbox hg; have hcz9_0 := blc_ (.int .i64 0) BK204 0; have hcz9_1 := blc_ (.int .i64 0) BK204 1; have hfz9_0 := blk_frozen BK204.out 0; have hfz9_1 := blk_frozen BK204.out 1) | ((with_reducible refine gate_callee (f := 55) rfl ?_); refine goesL_ (some 18) rfl rfl Tryz.func55 (by kernel_rfl) rfl #[.int .i64 a0, .slice (some ad203) l1.length c1, .agg #[.int .i64 ((rd_T38 l1 x10_1).f0), .int .i64 ((rd_T38 l1 x10_1).f1)]] rfl amp_ ?_; (with_reducible refine (spec_flMake.calls k1 a0 _ _ l1 ((rd_T38 l1 x10_1).f0) ((rd_T38 l1 x10_1).f1) t205 _ ?side1 ?side2 A6.out).mono ?_); (case side1 => exact Kd.C_below HR1.out bls_); (case side2 => exact HC1.out); rintro e w10 ⟨v206, rfl, ho0, hb⟩; refine ⟨_, rfl, ?_⟩; have HO207 := Aside0.mk (Kd.R_lower (Kd.R_newB ho0 (g := gb204) (o := .cells #[.int .i64 ((rd_T38 l1 x10_1).f0), .int .i64 ((rd_T38 l1 x10_1).f1)] 38 (0, 0)) (by (with_reducible repeat (first | refine blk_drewN ?_ _ | refine blk_drew ?_ | refine blk_alloc ?_ _)); refine blk_put (cs := #[.int .i64 ((rd_T38 l1 x10_1).f0), .int .i64 0]) ?_ 1 _ rfl; (with_reducible repeat (first | refine blk_drewN ?_ _ | refine blk_drew ?_ | refine blk_alloc ?_ _)); refine blk_put (cs := #[.int .i64 0, .int .i64 0]) ?_ 0 _ rfl; (with_reducible repeat (first | refine blk_drewN ?_ _ | refine blk_drew ?_ | refine blk_alloc ?_ _)); exact BK204.out)) (below_size bls_)); replace HO_5 := Aside0.mk (Kd.S_elder' (by (with_reducible repeat (first | apply Kd.S_alloc | apply Kd.S_drewN | apply Kd.S_drew)); exact (Kd.S_mono (Kd.S_far (p := ⟨gb204, 1, none⟩) (Kd.S_far (p := ⟨gb204, 0, none⟩) (Kd.S_mono HO_5.out (fun k_ hk => (⟨hk, hk.2⟩ : _ ∧ k_ ≠ gb204))) (fun _ hk => hk.2) (.int .i64 ((rd_T38 l1 x10_1).f0))) (fun _ hk => hk.2) (.int .i64 ((rd_T38 l1 x10_1).f1))) (fun _ h_ => h_.1))) (Kd.R_base ho0) hb); replace BK204 := Aside0.mk (blk_below (g := gb204) (o := .cells #[.int .i64 ((rd_T38 l1 x10_1).f0), .int .i64 ((rd_T38 l1 x10_1).f1)] 38 (0, 0)) (by (with_reducible repeat (first | refine blk_drewN ?_ _ | refine blk_drew ?_ | refine blk_alloc ?_ _)); refine blk_put (cs := #[.int .i64 ((rd_T38 l1 x10_1).f0), .int .i64 0]) ?_ 1 _ rfl; (with_reducible repeat (first | refine blk_drewN ?_ _ | refine blk_drew ?_ | refine blk_alloc ?_ _)); refine blk_put (cs := #[.int .i64 0, .int .i64 0]) ?_ 0 _ rfl; (with_reducible repeat (first | refine blk_drewN ?_ _ | refine blk_drew ?_ | refine blk_alloc ?_ _)); exact BK204.out) hb); replace HB := Aside0.mk (below_step bls_ hb); (try clear hb); (try clear hb2); (try clear hk); (try clear hi); (try clear ho0); obtain ⟨Ao12, co12, eo12⟩ := Kd.R_slice HO207.out; subst eo12) | ((with_reducible refine gate_builtin (b := .append) (xs := #[.tmp 14, .tmp 19]) rfl ?_); at_builtin; refine Kd.S_append (Kd.slice 38 k38) (w0 := w) w.heap.size rfl (.tmp 14) (.tmp 19) 43 27 (.slice none 0 0) 24 rfl Tryz.underlying43 info27 rfl (by decide) (by omega) u5 x5_1 t205 [.slice Ao12 t205.length co12] (fun k_ => k_ ≠ gb204) (fun k_ => some k_ = (.slice Ao12 t205.length co12 : Value).ownBlock) rfl rfl ?aP (fun k_ hk_ => ((Kd.R_mono (ok' := fun k_ => ((fun k_ => k_ ≠ gb204)) k_ ∧ some k_ ≠ (u5 : Value).ownBlock) (Kd.R_apart' (HO207.out) (Kd.S_typed HO_5.out) (by decide)) (fun k_ hk => ⟨hk.1.2, hk.2⟩))).1 k_ hk_.symm) ?aF ?aO ?aB ?aS ?aL ?_; (case aP => exact Kd.M_row (Kd.R_mono (Kd.R_tight rfl (Kd.R_mono (ok' := fun k_ => ((fun k_ => k_ ≠ gb204)) k_ ∧ some k_ ≠ (u5 : Value).ownBlock) (Kd.R_apart' (HO207.out) (Kd.S_typed HO_5.out) (by decide)) (fun k_ hk => ⟨hk.1.2, hk.2⟩))) (fun _ h_ => h_))); (case aB => exact bls_); (case aF => exact (fun k_ hk => Kd.freshB (g := gb204) (o := .cells #[.int .i64 ((rd_T38 l1 x10_1).f0), .int .i64 ((rd_T38 l1 x10_1).f1)] 38 (0, 0)) (bk_ BK204.out) k_ hk)); (case aO => exact (by (with_reducible repeat (first | apply Kd.S_alloc | apply Kd.S_drewN | apply Kd.S_drew)); exact Kd.S_mono HO_5.out (fun k_ hk => ⟨hk.1.2, fun e_ => hk.2 e_⟩))); (case aS => exact (below_size bls_)); (case aL => have := LMc7.out; omega); intro v209 w11 ho hb hg hat; rw [← Ny208.out] at ho; have HO210 := Aside0.mk (ho); replace BK204 := Aside0.mk (blk_grown (g := gb204) (o := .cells #[.int .i64 ((rd_T38 l1 x10_1).f0), .int .i64 ((rd_T38 l1 x10_1).f1)] 38 (0, 0)) (bk_ BK204.out) hg (Kd.S_ne HO_5.out BK204.out (by decide))); replace HB := Aside0.mk (hb); clear HO_5 HO207; clear ho hb hg hat))
    go_roundg k1
    case measure => have := HK1.out; omega
    case rel => exact ⟨(y208), (wrap64 (x10_1 + 1)), rsd_, H', ⟨by have := HK1.out; omega⟩, ⟨by (with_reducible repeat (first | apply Kd.S_alloc | apply Kd.S_drewN | apply Kd.S_drew)); exact Kd.S_mono HO210.out (fun _ hk => trivial)⟩, ⟨bls_⟩⟩
   ·rw [if_neg c3] at H
    have c3b0 : decide (x10_1 < (l1.length : Int)) = false := decide_eq_false c3
    clear c3
    obtain rfl := Option.some.inj H
    go_wp2
    go_ret
    exact ⟨_, by first | rfl | (simp [errW_none, errW_some] <;> rfl) | (simp [*, errW_none, errW_some] <;> rfl), by (with_reducible repeat (first | apply Kd.S_alloc | apply Kd.S_drewN | apply Kd.S_drew)); exact HO_5.out, blw_⟩

/-! ### spec_flFar: function 23 -/
mutual
def spec_flFar.l0 : Nat → Int → List (List (S38)) → List (S38) → List Int → Int → Int → Option (List Int)
 | 0, _, _, _, _, _, _ => none
 | k + 1, x0, x1, x2, x7, x18, x19 => if x19 < x18 then (if 0 ≤ x19 then (if x19 < (x7.length : Int) then (spec_flFar.l0 k x0 x1 x2 (x7.set (x19 : Int).toNat (-1)) x18 (wrap64 (x19 + 1))) else (none)) else (none)) else ((spec_flFind.f k x1 x2).bind fun t215 => ((some (([t215] : List Int) : List Int)).bind fun y216 => (if 0 < (y216.length : Int) then (if 0 ≤ (rd y216 0) then (if (rd y216 0) < (x7.length : Int) then (spec_flFar.l1 k x0 x1 (x7.set ((rd y216 0) : Int).toNat 0) y216 0) else (none)) else (none)) else (none))))
def spec_flFar.l1 : Nat → Int → List (List (S38)) → List Int → List Int → Int → Option (List Int)
 | 0, _, _, _, _, _ => none
 | k + 1, x0, x1, x7, x9, x10 => if x10 < (x9.length : Int) then (if 0 ≤ x10 then (if 0 ≤ (rd x9 x10) then (if (rd x9 x10) < (x1.length : Int) then ((spec_flAll.f k x0 (rd_L3 x1 (rd x9 x10))).bind fun t223 => (spec_flFar.l2 k x0 x1 x7 x9 x10 t223 (t223.length : Int) 0)) else (none)) else (none)) else (none)) else (some x7)
def spec_flFar.l2 : Nat → Int → List (List (S38)) → List Int → List Int → Int → List (List (S38)) → Int → Int → Option (List Int)
 | 0, _, _, _, _, _, _, _, _ => none
 | k + 1, x0, x1, x7, x9, x10, x49, x50, x51 => if x51 < x50 then (if 0 ≤ x51 then (if x51 < (x49.length : Int) then ((spec_flFind.f k x1 (rd_L3 x49 x51)).bind fun t227 => (if 0 ≤ t227 then (if t227 < (x7.length : Int) then (if (rd x7 t227) < 0 then (if 0 ≤ x10 then (if x10 < (x9.length : Int) then (if 0 ≤ (rd x9 x10) then (if (rd x9 x10) < (x7.length : Int) then (if x9.length < 17592186044416 then (spec_flFar.l2 k x0 x1 (x7.set (t227 : Int).toNat (wrap64 ((rd x7 (rd x9 x10)) + 1))) (x9 ++ [t227]) x10 x49 x50 (wrap64 (x51 + 1))) else (none)) else (none)) else (none)) else (none)) else (none)) else (spec_flFar.l2 k x0 x1 x7 x9 x10 x49 x50 (wrap64 (x51 + 1)))) else (none)) else (none))) else (none)) else (none)) else (spec_flFar.l1 k x0 x1 x7 x9 (wrap64 (x10 + 1)))
end
def spec_flFar.f (k : Nat) (a0 : Int) (l1 : List (List (S38))) (l2 : List (S38)) : Option (List Int) := if 0 ≤ (l1.length : Int) then (if ((l1.length : Int) : Int).toNat ≤ 35184372088832 then ((some (List.replicate ((l1.length : Int) : Int).toNat 0 : List Int)).bind fun y211 => (spec_flFar.l0 k a0 l1 l2 y211 (y211.length : Int) 0)) else (none)) else (none)
theorem spec_flFar.mono_l : ∀ k, (∀ y0 y1 y2 y3 y4 y5, LeO (spec_flFar.l0 k y0 y1 y2 y3 y4 y5) (spec_flFar.l0 (k + 1) y0 y1 y2 y3 y4 y5)) ∧ (∀ y0 y1 y2 y3 y4, LeO (spec_flFar.l1 k y0 y1 y2 y3 y4) (spec_flFar.l1 (k + 1) y0 y1 y2 y3 y4)) ∧ (∀ y0 y1 y2 y3 y4 y5 y6 y7, LeO (spec_flFar.l2 k y0 y1 y2 y3 y4 y5 y6 y7) (spec_flFar.l2 (k + 1) y0 y1 y2 y3 y4 y5 y6 y7))
 | 0 => ⟨fun _ _ _ _ _ _ r h => by simp [spec_flFar.l0] at h, fun _ _ _ _ _ r h => by simp [spec_flFar.l1] at h, fun _ _ _ _ _ _ _ _ r h => by simp [spec_flFar.l2] at h⟩
 | k + 1 => by
  obtain ⟨ih0, ih1, ih2⟩ := spec_flFar.mono_l k
  refine ⟨?_, ?_, ?_⟩
  ·intro y0 y1 y2 y3 y4 y5
   unfold spec_flFar.l0
   repeat' first
   | (with_reducible exact ih0 _ _ _ _ _ _)
   | (with_reducible exact ih1 _ _ _ _ _)
   | (with_reducible exact ih2 _ _ _ _ _ _ _ _)
   | (with_reducible exact spec_flAll.mono _ _ _)
   | (with_reducible exact spec_flFind.mono _ _ _)
   | (with_reducible exact LeO.refl _)
   | (with_reducible exact LeO.none _)
   | (with_reducible refine LeO.ite ?_ ?_)
   | (with_reducible refine LeO.bind ?_ (fun _ => ?_))
   | exact ih0 _ _ _ _ _ _
   | exact ih1 _ _ _ _ _
   | exact ih2 _ _ _ _ _ _ _ _
   | exact spec_flAll.mono _ _ _
   | exact spec_flFind.mono _ _ _
   | exact LeO.none _
   | refine LeO.ite ?_ ?_
   | refine LeO.bind ?_ (fun _ => ?_)
  ·intro y0 y1 y2 y3 y4
   unfold spec_flFar.l1
   repeat' first
   | (with_reducible exact ih0 _ _ _ _ _ _)
   | (with_reducible exact ih1 _ _ _ _ _)
   | (with_reducible exact ih2 _ _ _ _ _ _ _ _)
   | (with_reducible exact spec_flAll.mono _ _ _)
   | (with_reducible exact spec_flFind.mono _ _ _)
   | (with_reducible exact LeO.refl _)
   | (with_reducible exact LeO.none _)
   | (with_reducible refine LeO.ite ?_ ?_)
   | (with_reducible refine LeO.bind ?_ (fun _ => ?_))
   | exact ih0 _ _ _ _ _ _
   | exact ih1 _ _ _ _ _
   | exact ih2 _ _ _ _ _ _ _ _
   | exact spec_flAll.mono _ _ _
   | exact spec_flFind.mono _ _ _
   | exact LeO.none _
   | refine LeO.ite ?_ ?_
   | refine LeO.bind ?_ (fun _ => ?_)
  ·intro y0 y1 y2 y3 y4 y5 y6 y7
   unfold spec_flFar.l2
   repeat' first
   | (with_reducible exact ih0 _ _ _ _ _ _)
   | (with_reducible exact ih1 _ _ _ _ _)
   | (with_reducible exact ih2 _ _ _ _ _ _ _ _)
   | (with_reducible exact spec_flAll.mono _ _ _)
   | (with_reducible exact spec_flFind.mono _ _ _)
   | (with_reducible exact LeO.refl _)
   | (with_reducible exact LeO.none _)
   | (with_reducible refine LeO.ite ?_ ?_)
   | (with_reducible refine LeO.bind ?_ (fun _ => ?_))
   | exact ih0 _ _ _ _ _ _
   | exact ih1 _ _ _ _ _
   | exact ih2 _ _ _ _ _ _ _ _
   | exact spec_flAll.mono _ _ _
   | exact spec_flFind.mono _ _ _
   | exact LeO.none _
   | refine LeO.ite ?_ ?_
   | refine LeO.bind ?_ (fun _ => ?_)
theorem spec_flFar.mono : ∀ a0 a1 a2 k, LeO (spec_flFar.f k a0 a1 a2) (spec_flFar.f (k + 1) a0 a1 a2) := by
 intro a0 a1 a2 k
 obtain ⟨ih0, ih1, ih2⟩ := spec_flFar.mono_l k
 unfold spec_flFar.f
 repeat' first
   | (with_reducible exact ih0 _ _ _ _ _ _)
   | (with_reducible exact ih1 _ _ _ _ _)
   | (with_reducible exact ih2 _ _ _ _ _ _ _ _)
   | (with_reducible exact spec_flAll.mono _ _ _)
   | (with_reducible exact spec_flFind.mono _ _ _)
   | (with_reducible exact LeO.refl _)
   | (with_reducible exact LeO.none _)
   | (with_reducible refine LeO.ite ?_ ?_)
   | (with_reducible refine LeO.bind ?_ (fun _ => ?_))
   | exact ih0 _ _ _ _ _ _
   | exact ih1 _ _ _ _ _
   | exact ih2 _ _ _ _ _ _ _ _
   | exact spec_flAll.mono _ _ _
   | exact spec_flFind.mono _ _ _
   | exact LeO.none _
   | refine LeO.ite ?_ ?_
   | refine LeO.bind ?_ (fun _ => ?_)
set_option maxHeartbeats 8000000 in
set_option maxRecDepth 100000 in
theorem spec_flFar.calls (k : Nat) (a0 : Int) (A1 : Option Addr) (c1 : Nat) (l1 : List (List (S38))) (A2 : Option Addr) (c2 : Nat) (l2 : List (S38)) (r : List Int) (w : World) (hr1 : Kd.C (Kd.slice 38 k38) w A1 l1.length l1) (hc1 : l1.length ≤ c1) (hr2 : Kd.C k38 w A2 l2.length l2) (hc2 : l2.length ≤ c2) (h : spec_flFar.f k a0 l1 l2 = some r) :
  Calls Tryz.prog 23 #[.int .i64 a0, .slice A1 l1.length c1, .slice A2 l2.length c2] w fun e w' => ∃ v0_ : Value, e = .returned (v0_) ∧ Kd.R (Kd.int .i64) 3 w' w.heap.size (fun _ => True) v0_ r ∧ Below w.heap.size w w' := by
 have HR1 := Aside0.mk hr1
 have HC1 := Aside0.mk hc1
 clear hr1 hc1
 have HR2 := Aside0.mk hr2
 have HC2 := Aside0.mk hc2
 clear hr2 hc2
 have HB := Aside0.mk (Below.refl w.heap.size w)
 have H : (if 0 ≤ (l1.length : Int) then (if ((l1.length : Int) : Int).toNat ≤ 35184372088832 then ((some (List.replicate ((l1.length : Int) : Int).toNat 0 : List Int)).bind fun y211 => (spec_flFar.l0 k a0 l1 l2 y211 (y211.length : Int) 0)) else (none)) else (none)) = some r := h
 clear h
 by_cases c4 : 0 ≤ (l1.length : Int)
 case neg=>rw [if_neg c4] at H;exact absurd H (by simp)
 rw [if_pos c4] at H
 have c4b0 := eq_true c4
 have c4b1 : decide (0 ≤ (l1.length : Int)) = true := decide_eq_true c4
 clear c4
 by_cases c5 : ((l1.length : Int) : Int).toNat ≤ 35184372088832
 case neg=>rw [if_neg c5] at H;exact absurd H (by simp)
 rw [if_pos c5] at H
 have c5b0 := eq_true c5
 have c5b1 : decide (((l1.length : Int) : Int).toNat ≤ 35184372088832) = true := decide_eq_true c5
 clear c5
 obtain ⟨y211, hy211⟩ : ∃ y_ : List Int, y_ = (List.replicate ((l1.length : Int) : Int).toNat 0) := ⟨_, rfl⟩
 replace H : (spec_flFar.l0 k a0 l1 l2 y211 (y211.length : Int) 0) = some r := hyy_ hy211 H
 have Ny211 := Aside0.mk hy211
 clear hy211
 have H' := Aside0.mk H
 clear H
 go_enter Tryz.func23, Tryz.ntmps23
 go_wp2_with (first | ((with_reducible refine gate_dst (N := 16) rfl ?_); refine Kd.R_make (Kd.int .i64) _ 3 rfl (N := 16) rfl 24 _ _ rfl (l1.length : Int) rfl rfl Tryz.underlying24 (.int .i64 0) 8 info3 rfl (by decide) (by omega) 0 (ok := fun _ => True) (okp := fun _ => True) rfl (fun _ hk => hk) trivial (odt_) (Nat.le_trans (Nat.mul_le_mul_right _ (odt_ : (l1.length : Int).toNat ≤ 35184372088832)) (by omega)) (Below.refl _ _) (Nat.le_refl _) ?_; intro v212 w6 ho7 hb hg_ hnew_; clear hg_ hnew_; (first | rw [← Ny211.out] at ho7 | (simp only [Int.reduceToNat] at ho7; rw [← Ny211.out] at ho7)); have HO213 := Aside0.mk (Kd.R_lower ho7 (below_size blw_)); replace HB := Aside0.mk (below_step blw_ hb); clear hb ho7; obtain ⟨Ao8, co8, eo8⟩ := Kd.R_slice HO213.out; subst eo8))
 go_loopg [19] k (fun kq v19 w' => ∃ (x7_1 : List Int) (x19_1 : Int), v19 = .int .i64 x19_1 ∧ Aside0 (spec_flFar.l0 kq a0 l1 l2 x7_1 (y211.length : Int) x19_1 = some r) ∧ Aside0 (kq ≤ k) ∧ Aside0 (Kd.R (Kd.int .i64) 3 w' w.heap.size (fun _ => True) (.slice Ao8 y211.length co8) x7_1) ∧ Aside0 (Below w.heap.size w w'))
 case atStart => exact ⟨(y211), (0), rsd_, H', ⟨Nat.le_refl _⟩, ⟨ra_ HO213.out⟩, ⟨blw_⟩⟩
 case round =>
  clear H'
  try clear c1
  try clear c2
  try clear p2
  try clear c4
  try clear c4b0
  try clear c4b1
  try clear c5
  try clear c5b0
  try clear c5b1
  try clear HO_7
  obtain ⟨x7_1, x19_1, rfl, HA, HK1, HO_7, HB⟩ := hrel
  have hl7_1 := (Kd.R_reads' HO_7.out).1
  rw [hl7_1] at HO_7
  (try simp only [hl7_1])
  cases gk with
  | zero => exact absurd HA.out (by simp [spec_flFar.l0])
  | succ k1 =>
   have H := HA.out
   clear HA
   simp only [spec_flFar.l0] at H
   by_cases c9 : x19_1 < (y211.length : Int)
   ·rw [if_pos c9] at H
    have c9b0 : decide (x19_1 < (y211.length : Int)) = true := decide_eq_true c9
    clear c9
    by_cases c10 : 0 ≤ x19_1
    case neg=>rw [if_neg c10] at H;exact absurd H (by simp)
    rw [if_pos c10] at H
    have c10b0 : decide (0 ≤ x19_1) = true := decide_eq_true c10
    clear c10
    by_cases c11 : x19_1 < (x7_1.length : Int)
    case neg=>rw [if_neg c11] at H;exact absurd H (by simp)
    rw [if_pos c11] at H
    have c11b0 : decide (x19_1 < (x7_1.length : Int)) = true := decide_eq_true c11
    clear c11
    obtain ⟨y214, hy214⟩ : ∃ y_ : List Int, y_ = (x7_1.set (x19_1 : Int).toNat (-1)) := ⟨_, rfl⟩
    replace H : (spec_flFar.l0 k1 a0 l1 l2 y214 (y211.length : Int) (wrap64 (x19_1 + 1))) = some r := hyy_ hy214 H
    have Ny214 := Aside0.mk hy214
    clear hy214
    have H' := Aside0.mk H
    clear H
    have p12 : 0 ≤ (x19_1 : Int) := odt_
    have q12 : (x19_1 : Int) < ((x7_1.length : Int) : Int) := odt_
    obtain ⟨go12, co12, eo12, gb12, gl12, cl12, HG12⟩ := Kd.R_form HO_7.out (by omega)
    (first | cases eo12 | (injection eo12 with ea_ en_ ec_; (first | subst ea_ | (injection ea_ with ea_; subst ea_)); subst ec_; clear en_))
    have GB12 := Aside0.mk gb12
    have GG12 := Aside0.mk HG12
    clear gb12 gl12 HG12
    obtain ⟨hx12_0, hf12_0⟩ := Kd.R_celln 0 HO_7.out (x19_1 : Int) p12 q12
    replace p12 := eq_true p12
    replace q12 := eq_true q12
    have HP13 := Kd.R_putg HO_7.out (x19_1 : Int) (-1)
    go_wp2_with (first | ((with_reducible refine gate_store (t := 3) (p := 24) rfl ?_); refine store_event (t := 3) (p := 24) (v := ?vo_w14) (w1 := (wr.setCell ⟨go12, (x19_1 : Int).toNat, none⟩ (.int .i64 (-1)))) ?hg ?ho ?hn ?hr ?_; (case ho => rfl); (case hg => rfl); (case hn => rfl); (case hr => first | (go_simp; done) | (go_simp; rfl)); intro w14 hw; have hg : wr.grownBy w14 (some go12) := (by rw [hw]; exact HP13.2); have hp_ : Kd.R (Kd.int .i64) 3 w14 w.heap.size (fun _ => True) (.slice (some ⟨go12, 0, none⟩) x7_1.length co8) y214 := (by rw [hw, Ny214.out]; exact HP13.1); clear HP13; replace HO_7 := Aside0.mk (hp_); replace HB := Aside0.mk ((by rw [hw]; exact below_set (HB.out) GB12.out : Below w.heap.size w w14)); clear hg hw hp_))
    (try simp only [← hl7_1])
    go_roundg k1
    case measure => have := HK1.out; omega
    case rel => exact ⟨(y214), (wrap64 (x19_1 + 1)), rsd_, H', ⟨by have := HK1.out; omega⟩, ⟨by (try simp only [hl7_1]); (with_reducible repeat (first | apply Kd.R_alloc | apply Kd.R_drewN | apply Kd.R_drew)); exact HO_7.out⟩, ⟨blw_⟩⟩
   ·rw [if_neg c9] at H
    have c9b0 : decide (x19_1 < (y211.length : Int)) = false := decide_eq_false c9
    (try (have c9b90 := c9b0; rw [hl7_1] at c9b90))
    clear c9
    replace H := Option.bind_eq_some_iff.mp H
    obtain ⟨t215, A150, H⟩ := H
    replace H : ((some (([t215] : List Int) : List Int)).bind fun y216 => (if 0 < (y216.length : Int) then (if 0 ≤ (rd y216 0) then (if (rd y216 0) < (x7_1.length : Int) then (spec_flFar.l1 k1 a0 l1 (x7_1.set ((rd y216 0) : Int).toNat 0) y216 0) else (none)) else (none)) else (none))) = some r := H
    have A15 := Aside0.mk A150
    clear A150
    obtain ⟨y216, hy216⟩ : ∃ y_ : List Int, y_ = (([t215] : List Int)) := ⟨_, rfl⟩
    replace H : (if 0 < (y216.length : Int) then (if 0 ≤ (rd y216 0) then (if (rd y216 0) < (x7_1.length : Int) then (spec_flFar.l1 k1 a0 l1 (x7_1.set ((rd y216 0) : Int).toNat 0) y216 0) else (none)) else (none)) else (none)) = some r := hyy_ hy216 H
    have Ny216 := Aside0.mk hy216
    clear hy216
    by_cases c16 : 0 < (y216.length : Int)
    case neg=>rw [if_neg c16] at H;exact absurd H (by simp)
    rw [if_pos c16] at H
    have c16b0 : decide (0 < (y216.length : Int)) = true := decide_eq_true c16
    have c16b1 : decide (0 < y216.length) = true := decide_eq_true (by omega)
    clear c16
    by_cases c17 : 0 ≤ (rd y216 0)
    case neg=>rw [if_neg c17] at H;exact absurd H (by simp)
    rw [if_pos c17] at H
    have c17b0 : decide (0 ≤ (rd y216 0)) = true := decide_eq_true c17
    clear c17
    by_cases c18 : (rd y216 0) < (x7_1.length : Int)
    case neg=>rw [if_neg c18] at H;exact absurd H (by simp)
    rw [if_pos c18] at H
    have c18b0 : decide ((rd y216 0) < (x7_1.length : Int)) = true := decide_eq_true c18
    clear c18
    obtain ⟨y220, hy220⟩ : ∃ y_ : List Int, y_ = (x7_1.set ((rd y216 0) : Int).toNat 0) := ⟨_, rfl⟩
    replace H : (spec_flFar.l1 k1 a0 l1 y220 y216 0) = some r := hyy_ hy220 H
    have Ny220 := Aside0.mk hy220
    clear hy220
    have H' := Aside0.mk H
    clear H
    go_wp2_with (first | ((with_reducible refine gate_callee (f := 39) rfl ?_); refine goesL_ (some 28) rfl rfl Tryz.func39 (by kernel_rfl) rfl #[.slice A1 l1.length c1, .slice A2 l2.length c2] rfl amp_ ?_; (with_reducible refine (spec_flFind.calls k1 _ _ l1 _ _ l2 t215 _ ?side1 ?side2 ?side3 ?side4 A15.out).mono ?_); (case side1 => exact cd_ (Kd.C_below HR1.out HB.out)); (case side2 => exact HC1.out); (case side3 => exact cd_ (Kd.C_below HR2.out HB.out)); (case side4 => exact HC2.out); rintro e w' ⟨rfl, ⟨nd, rfl⟩⟩; refine ⟨_, rfl, ?_⟩; (try (rw [drewN_self wr]; generalize hq_ : World.drewN wr _ = wr; replace HO_7 : Aside0 (Kd.R (Kd.int .i64) 3 wr w.heap.size (fun _ => True) (.slice Ao8 x7_1.length co8) x7_1) := ⟨by rw [← hq_]; exact (ra_ HO_7.out)⟩; replace HB : Aside0 (Below w.heap.size w wr) := ⟨by rw [← hq_]; exact blw_⟩; clear hq_))) | ((with_reducible refine gate_dst (N := 29) rfl ?_); refine Kd.R_lit (Kd.int .i64) _ 3 ?hg (N := 29) ?hd (xs := ([t215] : List Int)) (inner := [.int .i64 t215]) (ok := fun _ => True) (okp := fun _ => True) ?hr ?hp (fun _ hk => hk) trivial (Below.refl _ _) (Nat.le_refl _) (by simp) ?_; (case hd => rfl); (case hg => rfl); (case hr => first | (go_simp; done) | (go_simp; rfl)); (case hp => exact (Reps.one (show Kd.M (Kd.int .i64) _ _ _ t215 [.int .i64 t215] from rfl) (Reps.none _ _))); intro v217 w20 ho21 hb hg_ hnew_; clear hg_ hnew_; (first | rw [← Ny216.out] at ho21 | (simp only [Int.reduceToNat] at ho21; rw [← Ny216.out] at ho21)); have HO218 := Aside0.mk (Kd.R_lower (Kd.R_new' ho21 (Kd.R_lt (ra_ HO_7.out))) (below_size blw_)); replace HO_7 := Aside0.mk (Kd.R_elder' (ra_ HO_7.out) (Kd.R_base ho21) hb); replace HB := Aside0.mk (below_step blw_ hb); clear hb ho21; obtain ⟨Ao22, co22, eo22⟩ := Kd.R_slice HO218.out; subst eo22; have p219 : 0 ≤ (0 : Int) := (by omega); have q219 : 0 < (y216.length : Int) := odt_; obtain ⟨ad219, e219, hx219_0⟩ := Kd.at_int (Kd.R_reads' HO218.out).2.2 0 p219 q219; cases e219; have qi219 : (0 < y216.length) = True := eq_true (by omega); (try rw [show ((0 : Int)).toNat = 0 from rfl] at hx219_0); (try rw [Addr.add_zero'] at hx219_0); replace p219 := eq_true p219; replace q219 := eq_true q219; have p19 : 0 ≤ ((rd y216 0) : Int) := odt_; have q19 : ((rd y216 0) : Int) < ((x7_1.length : Int) : Int) := odt_; obtain ⟨go19, co19, eo19, gb19, gl19, cl19, HG19⟩ := Kd.R_form HO_7.out (by omega); (first | cases eo19 | (injection eo19 with ea_ en_ ec_; (first | subst ea_ | (injection ea_ with ea_; subst ea_)); subst ec_; clear en_)); have GB19 := Aside0.mk gb19; have GG19 := Aside0.mk HG19; clear gb19 gl19 HG19; obtain ⟨hx19_0, hf19_0⟩ := Kd.R_celln 0 HO_7.out ((rd y216 0) : Int) p19 q19; replace p19 := eq_true p19; replace q19 := eq_true q19; have n_ := Aside0.mk (Kd.R_mono (ok' := (fun k_ => some k_ ≠ (.slice (some ad219) y216.length co22 : Value).ownBlock)) HO_7.out (fun k_ hk => hk.2)); clear HO_7; have HO_7 := n_; clear n_; obtain ⟨hy23_, hz23_⟩ := Kd.R_celln 0 HO_7.out ((rd y216 0) : Int) (odt_) (odt_); have HP23 := Kd.R_putg HO_7.out ((rd y216 0) : Int) 0) | ((with_reducible refine gate_store (t := 3) (p := 34) rfl ?_); refine store_event (t := 3) (p := 34) (v := ?vo_w24) (w1 := (w20.setCell ⟨go19, ((rd y216 0) : Int).toNat, none⟩ (.int .i64 0))) ?hg ?ho ?hn ?hr ?_; (case ho => rfl); (case hg => rfl); (case hn => rfl); (case hr => first | (go_simp; done) | (go_simp; rfl)); intro w24 hw; have hg : w20.grownBy w24 (some go19) := (by rw [hw]; exact HP23.2); have hp_ : Kd.R (Kd.int .i64) 3 w24 w.heap.size (fun k_ => some k_ ≠ (.slice (some ad219) y216.length co22 : Value).ownBlock) (.slice (some ⟨go19, 0, none⟩) x7_1.length co8) y220 := (by rw [hw, Ny220.out]; exact HP23.1); clear HP23; replace HO_7 := Aside0.mk (hp_); replace HO218 := Aside0.mk (Kd.R_after (v := (.slice (some ⟨go19, 0, none⟩) x7_1.length co8)) (v1 := (.slice (some ⟨go19, 0, none⟩) x7_1.length co8)) (ok := (fun _ => True)) (ra_ HO218.out) hg (.inl rfl)); replace HB := Aside0.mk ((by rw [hw]; exact below_set (HB.out) GB19.out : Below w.heap.size w w24)); clear hg hw hp_))
    go_loopg [9, 10] k1 (fun kq v9 v10 w' => ∃ (x7_2 : List Int) (x9_2 : List Int) (x10_2 : Int), v10 = .int .i64 x10_2 ∧ Aside0 (spec_flFar.l1 kq a0 l1 x7_2 x9_2 x10_2 = some r) ∧ Aside0 (kq ≤ k1) ∧ Aside0 (Kd.R (Kd.int .i64) 3 w' w.heap.size (fun k_ => some k_ ≠ (v9 : Value).ownBlock) (.slice (some ⟨go19, 0, none⟩) x7_1.length co8) x7_2) ∧ Aside0 (Kd.R (Kd.int .i64) 3 w' w.heap.size (fun k_ => some k_ ≠ ((.slice (some ⟨go19, 0, none⟩) x7_1.length co8) : Value).ownBlock) v9 x9_2) ∧ Aside0 (Below w.heap.size w w'))
    case atStart => exact ⟨(y220), (y216), (0), rsd_, H', ⟨Nat.le_refl _⟩, ⟨by (try simp only [hl7_1]); (with_reducible repeat (first | apply Kd.R_alloc | apply Kd.R_drewN | apply Kd.R_drew)); exact HO_7.out⟩, ⟨by (try simp only [hl7_1]); (with_reducible repeat (first | apply Kd.R_alloc | apply Kd.R_drewN | apply Kd.R_drew)); exact Kd.R_mono HO218.out (fun _ hk => hk.2)⟩, ⟨blw_⟩⟩
    case round =>
     clear H'
     try clear c1
     try clear p1
     try clear q1
     try clear hx1
     try clear c2
     try clear p2
     try clear q2
     try clear hx2
     try clear qi2
     try clear c3
     try clear c4
     try clear c4b0
     try clear c4b1
     try clear c5
     try clear c5b0
     try clear c5b1
     try clear p6
     try clear c9
     try clear c9b0
     try clear c10
     try clear c10b0
     try clear c11
     try clear c11b0
     try clear p12
     try clear q12
     try clear hx12
     try clear hf12
     try clear c16
     try clear c16b0
     try clear c16b1
     try clear c17
     try clear c17b0
     try clear c18
     try clear c18b0
     try clear p19
     try clear q19
     try clear hx19
     try clear hf19
     try clear p21
     try clear q21
     try clear hx21
     try clear qi21
     try clear c23
     try clear hx12_0
     try clear hx19_0
     try clear hx219_0
     try clear p12
     try clear p19
     try clear p2
     try clear p219
     try clear q12
     try clear q19
     try clear q219
     try clear HO_7
     try clear HO_9
     obtain ⟨x7_2, x9_2, x10_2, rfl, HA, HK2, HO_7, HO_9, HB⟩ := hrel
     have hl7_2 := (Kd.R_reads' HO_7.out).1
     rw [hl7_2] at HO_7
     (try simp only [hl7_2])
     (try simp only [hl7_2] at HO_9)
     cases gk with
     | zero => exact absurd HA.out (by simp [spec_flFar.l1])
     | succ k2 =>
      have H := HA.out
      clear HA
      simp only [spec_flFar.l1] at H
      by_cases c25 : x10_2 < (x9_2.length : Int)
      ·rw [if_pos c25] at H
       have c25b0 : decide (x10_2 < (x9_2.length : Int)) = true := decide_eq_true c25
       clear c25
       by_cases c26 : 0 ≤ x10_2
       case neg=>rw [if_neg c26] at H;exact absurd H (by simp)
       rw [if_pos c26] at H
       have c26b0 : decide (0 ≤ x10_2) = true := decide_eq_true c26
       clear c26
       by_cases c27 : 0 ≤ (rd x9_2 x10_2)
       case neg=>rw [if_neg c27] at H;exact absurd H (by simp)
       rw [if_pos c27] at H
       have c27b0 : decide (0 ≤ (rd x9_2 x10_2)) = true := decide_eq_true c27
       clear c27
       by_cases c28 : (rd x9_2 x10_2) < (l1.length : Int)
       case neg=>rw [if_neg c28] at H;exact absurd H (by simp)
       rw [if_pos c28] at H
       have c28b0 : decide ((rd x9_2 x10_2) < (l1.length : Int)) = true := decide_eq_true c28
       clear c28
       replace H := Option.bind_eq_some_iff.mp H
       obtain ⟨t223, A290, H⟩ := H
       replace H : (spec_flFar.l2 k2 a0 l1 x7_2 x9_2 x10_2 t223 (t223.length : Int) 0) = some r := H
       have A29 := Aside0.mk A290
       clear A290
       have H' := Aside0.mk H
       clear H
       obtain ⟨Ao30, co30, eo30⟩ := Kd.R_slice HO_9.out
       subst eo30
       have p221 : 0 ≤ (x10_2 : Int) := odt_
       have q221 : x10_2 < (x9_2.length : Int) := odt_
       obtain ⟨ad221, e221, hx221_0⟩ := Kd.at_int (Kd.R_reads' HO_9.out).2.2 x10_2 p221 q221
       cases e221
       replace p221 := eq_true p221
       replace q221 := eq_true q221
       have p222 : 0 ≤ ((rd x9_2 x10_2) : Int) := odt_
       have q222 : (rd x9_2 x10_2) < (l1.length : Int) := odt_
       obtain ⟨ad222, A222_0, c222_0, e222, hx222_0, hl222_0, hi222_0⟩ := at_L3 HR1.out (rd x9_2 x10_2) p222 q222
       cases e222
       (first | replace hx222_0 := (HB.out.cell (World.block_lt_of_cell? w _ hx222_0)).trans hx222_0 | skip)
       have HR222_0 := Aside0.mk hi222_0
       have HC222_0 := Aside0.mk hl222_0
       clear hi222_0 hl222_0
       replace p222 := eq_true p222
       replace q222 := eq_true q222
       go_wp2_with (first | ((with_reducible refine gate_callee (f := 40) rfl ?_); refine goesL_ (some 49) rfl rfl Tryz.func40 (by kernel_rfl) rfl #[.int .i64 a0, .slice A222_0 (rd_L3 l1 (rd x9_2 x10_2)).length c222_0] rfl amp_ ?_; (with_reducible refine (spec_flAll.calls k2 a0 _ _ (rd_L3 l1 (rd x9_2 x10_2)) t223 _ ?side1 ?side2 A29.out).mono ?_); (case side1 => exact cd_ (Kd.C_below HR222_0.out HB.out)); (case side2 => exact HC222_0.out); rintro e w31 ⟨v224, rfl, ho0, hb⟩; refine ⟨_, rfl, ?_⟩; have HO225 := Aside0.mk (Kd.S_lower ho0 (below_size blw_)); replace HO_7 := Aside0.mk (Kd.R_below (ra_ HO_7.out) hb); replace HO_9 := Aside0.mk (Kd.R_below (ra_ HO_9.out) hb); replace HB := Aside0.mk (below_step blw_ hb); (try clear hb); (try clear hb2); (try clear hk); (try clear hi); (try clear ho0); obtain ⟨Ao32, co32, eo32⟩ := Kd.S_slice HO225.out; subst eo32))
       go_loopg [9, 51] k2 (fun kq v9 v51 w' => ∃ (x7_3 : List Int) (x9_3 : List Int) (x51_3 : Int), v51 = .int .i64 x51_3 ∧ Aside0 (spec_flFar.l2 kq a0 l1 x7_3 x9_3 x10_2 t223 (t223.length : Int) x51_3 = some r) ∧ Aside0 (kq ≤ k2) ∧ Aside0 (Kd.R (Kd.int .i64) 3 w' w.heap.size (fun k_ => some k_ ≠ (v9 : Value).ownBlock) (.slice (some ⟨go19, 0, none⟩) x7_2.length co8) x7_3) ∧ Aside0 (Kd.R (Kd.int .i64) 3 w' w.heap.size (fun k_ => some k_ ≠ ((.slice (some ⟨go19, 0, none⟩) x7_2.length co8) : Value).ownBlock) v9 x9_3) ∧ Aside0 (Kd.S (Kd.slice 38 k38) 27 w' w.heap.size (fun _ => True) (.slice Ao32 t223.length co32) t223) ∧ Aside0 (Below w.heap.size w w'))
       case atStart => exact ⟨(x7_2), (x9_2), (0), rsd_, H', ⟨Nat.le_refl _⟩, ⟨by (try simp only [hl7_1]); (try simp only [hl7_2]); (with_reducible repeat (first | apply Kd.R_alloc | apply Kd.R_drewN | apply Kd.R_drew)); exact HO_7.out⟩, ⟨by (try simp only [hl7_1]); (try simp only [hl7_2]); (with_reducible repeat (first | apply Kd.R_alloc | apply Kd.R_drewN | apply Kd.R_drew)); exact HO_9.out⟩, ⟨by (try simp only [hl7_1]); (try simp only [hl7_2]); (with_reducible repeat (first | apply Kd.S_alloc | apply Kd.S_drewN | apply Kd.S_drew)); exact HO225.out⟩, ⟨blw_⟩⟩
       case round =>
        clear H'
        try clear c1
        try clear p1
        try clear q1
        try clear hx1
        try clear c2
        try clear p2
        try clear q2
        try clear hx2
        try clear qi2
        try clear c3
        try clear c4
        try clear c4b0
        try clear c4b1
        try clear c5
        try clear c5b0
        try clear c5b1
        try clear p6
        try clear c9
        try clear c9b0
        try clear c10
        try clear c10b0
        try clear c11
        try clear c11b0
        try clear p12
        try clear q12
        try clear hx12
        try clear hf12
        try clear c16
        try clear c16b0
        try clear c16b1
        try clear c17
        try clear c17b0
        try clear c18
        try clear c18b0
        try clear p19
        try clear q19
        try clear hx19
        try clear hf19
        try clear p21
        try clear q21
        try clear hx21
        try clear qi21
        try clear c22
        try clear p22
        try clear q22
        try clear hx22
        try clear c23
        try clear c25
        try clear c25b0
        try clear c26
        try clear c26b0
        try clear c27
        try clear c27b0
        try clear c28
        try clear c28b0
        try clear hx12_0
        try clear hx19_0
        try clear hx219_0
        try clear hx221_0
        try clear hx222_0
        try clear p1
        try clear p12
        try clear p19
        try clear p2
        try clear p21
        try clear p219
        try clear p221
        try clear p222
        try clear p6
        try clear q1
        try clear q12
        try clear q19
        try clear q2
        try clear q21
        try clear q219
        try clear q221
        try clear q222
        try clear HO_7
        try clear HO_9
        try clear HO_49
        obtain ⟨x7_3, x9_3, x51_3, rfl, HA, HK3, HO_7, HO_9, HO_49, HB⟩ := hrel
        have hl7_3 := (Kd.R_reads' HO_7.out).1
        rw [hl7_3] at HO_7
        (try simp only [hl7_3])
        (try simp only [hl7_3] at HO_9)
        (try simp only [hl7_3] at HO_49)
        cases gk with
        | zero => exact absurd HA.out (by simp [spec_flFar.l2])
        | succ k3 =>
         have H := HA.out
         clear HA
         simp only [spec_flFar.l2] at H
         by_cases c33 : x51_3 < (t223.length : Int)
         ·rw [if_pos c33] at H
          have c33b0 : decide (x51_3 < (t223.length : Int)) = true := decide_eq_true c33
          clear c33
          by_cases c34 : 0 ≤ x51_3
          case neg=>rw [if_neg c34] at H;exact absurd H (by simp)
          rw [if_pos c34] at H
          have c34b0 : decide (0 ≤ x51_3) = true := decide_eq_true c34
          clear c34
          by_cases c35 : x51_3 < (t223.length : Int)
          case neg=>rw [if_neg c35] at H;exact absurd H (by simp)
          rw [if_pos c35] at H
          have c35b0 : decide (x51_3 < (t223.length : Int)) = true := decide_eq_true c35
          clear c35
          replace H := Option.bind_eq_some_iff.mp H
          obtain ⟨t227, A360, H⟩ := H
          replace H : (if 0 ≤ t227 then (if t227 < (x7_3.length : Int) then (if (rd x7_3 t227) < 0 then (if 0 ≤ x10_2 then (if x10_2 < (x9_3.length : Int) then (if 0 ≤ (rd x9_3 x10_2) then (if (rd x9_3 x10_2) < (x7_3.length : Int) then (if x9_3.length < 17592186044416 then (spec_flFar.l2 k3 a0 l1 (x7_3.set (t227 : Int).toNat (wrap64 ((rd x7_3 (rd x9_3 x10_2)) + 1))) (x9_3 ++ [t227]) x10_2 t223 (t223.length : Int) (wrap64 (x51_3 + 1))) else (none)) else (none)) else (none)) else (none)) else (none)) else (spec_flFar.l2 k3 a0 l1 x7_3 x9_3 x10_2 t223 (t223.length : Int) (wrap64 (x51_3 + 1)))) else (none)) else (none)) = some r := H
          have A36 := Aside0.mk A360
          clear A360
          by_cases c37 : 0 ≤ t227
          case neg=>rw [if_neg c37] at H;exact absurd H (by simp)
          rw [if_pos c37] at H
          have c37b0 : decide (0 ≤ t227) = true := decide_eq_true c37
          clear c37
          by_cases c38 : t227 < (x7_3.length : Int)
          case neg=>rw [if_neg c38] at H;exact absurd H (by simp)
          rw [if_pos c38] at H
          have c38b0 : decide (t227 < (x7_3.length : Int)) = true := decide_eq_true c38
          clear c38
          by_cases c39 : (rd x7_3 t227) < 0
          ·rw [if_pos c39] at H
           have c39b0 : decide ((rd x7_3 t227) < 0) = true := decide_eq_true c39
           clear c39
           by_cases c40 : 0 ≤ x10_2
           case neg=>rw [if_neg c40] at H;exact absurd H (by simp)
           rw [if_pos c40] at H
           have c40b0 : decide (0 ≤ x10_2) = true := decide_eq_true c40
           clear c40
           by_cases c41 : x10_2 < (x9_3.length : Int)
           case neg=>rw [if_neg c41] at H;exact absurd H (by simp)
           rw [if_pos c41] at H
           have c41b0 : decide (x10_2 < (x9_3.length : Int)) = true := decide_eq_true c41
           clear c41
           by_cases c42 : 0 ≤ (rd x9_3 x10_2)
           case neg=>rw [if_neg c42] at H;exact absurd H (by simp)
           rw [if_pos c42] at H
           have c42b0 : decide (0 ≤ (rd x9_3 x10_2)) = true := decide_eq_true c42
           clear c42
           by_cases c43 : (rd x9_3 x10_2) < (x7_3.length : Int)
           case neg=>rw [if_neg c43] at H;exact absurd H (by simp)
           rw [if_pos c43] at H
           have c43b0 : decide ((rd x9_3 x10_2) < (x7_3.length : Int)) = true := decide_eq_true c43
           clear c43
           obtain ⟨y231, hy231⟩ : ∃ y_ : List Int, y_ = (x7_3.set (t227 : Int).toNat (wrap64 ((rd x7_3 (rd x9_3 x10_2)) + 1))) := ⟨_, rfl⟩
           replace H : (if x9_3.length < 17592186044416 then (spec_flFar.l2 k3 a0 l1 y231 (x9_3 ++ [t227]) x10_2 t223 (t223.length : Int) (wrap64 (x51_3 + 1))) else (none)) = some r := hyy_ hy231 H
           have Ny231 := Aside0.mk hy231
           clear hy231
           by_cases c45 : x9_3.length < 17592186044416
           case neg=>rw [if_neg c45] at H;exact absurd H (by simp)
           rw [if_pos c45] at H
           have LMc45 := Aside0.mk c45
           clear c45
           obtain ⟨y232, hy232⟩ : ∃ y_ : List Int, y_ = (x9_3 ++ [t227]) := ⟨_, rfl⟩
           replace H : (spec_flFar.l2 k3 a0 l1 y231 y232 x10_2 t223 (t223.length : Int) (wrap64 (x51_3 + 1))) = some r := hyy_ hy232 H
           have Ny232 := Aside0.mk hy232
           clear hy232
           have H' := Aside0.mk H
           clear H
           have p226 : 0 ≤ (x51_3 : Int) := odt_
           have q226 : x51_3 < (t223.length : Int) := odt_
           obtain ⟨ad226, A226_0, c226_0, e226, hx226_0, hl226_0, hi226_0⟩ := at_L3 (Kd.S_reads' HO_49.out).2.2 x51_3 p226 q226
           cases e226
           obtain ⟨ce226, hce226, hMe226, hcc226⟩ := Kd.S_get HO_49.out [] x51_3 p226 (by first | exact q226 | exact odt_ | (have e_ := (Kd.S_reads' HO_49.out).1; omega))
           obtain ⟨ve226_0, rfl, ge226_0⟩ := hMe226
           have hv226_0 := hcc226 0 _ rfl
           rw [Nat.add_zero, show ((Kd.slice 38 k38)).sz = 1 from rfl, Nat.mul_one] at hv226_0
           replace hv226_0 := Option.some.inj (hv226_0.symm.trans hx226_0)
           rw [hv226_0] at ge226_0
           have HL226_0 := Aside0.mk (show Kd.R k38 38 _ _ _ _ (rd_L3 t223 x51_3) from ge226_0)
           clear hv226_0 ge226_0
           clear hcc226 hce226
           have HR226_0 := Aside0.mk hi226_0
           have HC226_0 := Aside0.mk hl226_0
           clear hi226_0 hl226_0
           replace p226 := eq_true p226
           replace q226 := eq_true q226
           go_wp2_with (first | ((with_reducible refine gate_callee (f := 39) rfl ?_); refine goesL_ (some 57) rfl rfl Tryz.func39 (by kernel_rfl) rfl #[.slice (some ad222) l1.length c1, .slice A226_0 (rd_L3 t223 x51_3).length c226_0] rfl amp_ ?_; (with_reducible refine (spec_flFind.calls k3 _ _ l1 _ _ (rd_L3 t223 x51_3) t227 _ ?side1 ?side2 ?side3 ?side4 A36.out).mono ?_); (case side1 => exact cd_ (Kd.C_below HR1.out HB.out)); (case side2 => exact HC1.out); (case side3 => repeat (first | exact (by repeat (first | (with_reducible exact HR226_0.out) | (with_reducible refine Kd.C_alloc ?_ _) | (with_reducible refine Kd.C_drewN ?_ _) | (with_reducible refine Kd.C_drew ?_) | exact HR226_0.out)) | (with_reducible refine Kd.C_alloc ?_ _) | (with_reducible refine Kd.C_drewN ?_ _) | (with_reducible refine Kd.C_drew ?_))); (case side4 => exact HC226_0.out); rintro e w' ⟨rfl, ⟨nd, rfl⟩⟩; refine ⟨_, rfl, ?_⟩; (try (rw [drewN_self wr]; generalize hq_ : World.drewN wr _ = wr; replace HL226_0 : Aside0 (Kd.R k38 38 wr w.heap.size (fun k_ => some k_ ≠ (.slice (some ad226) t223.length co32 : Value).ownBlock) (.slice A226_0 (rd_L3 t223 x51_3).length c226_0) (rd_L3 t223 x51_3)) := ⟨by rw [← hq_]; exact (by (with_reducible repeat (first | apply Kd.R_alloc | apply Kd.R_drewN | apply Kd.R_drew)); exact Kd.R_mono HL226_0.out (fun _ hk => hk.2))⟩; replace HO_49 : Aside0 (Kd.S (Kd.slice 38 k38) 27 wr w.heap.size (fun _ => True) (.slice (some ad226) t223.length co32) t223) := ⟨by rw [← hq_]; exact (sa_ HO_49.out)⟩; replace HO_7 : Aside0 (Kd.R (Kd.int .i64) 3 wr w.heap.size (fun k_ => some k_ ≠ (u9 : Value).ownBlock) (.slice (some ⟨go19, 0, none⟩) x7_3.length co8) x7_3) := ⟨by rw [← hq_]; exact (ra_ HO_7.out)⟩; replace HO_9 : Aside0 (Kd.R (Kd.int .i64) 3 wr w.heap.size (fun k_ => some k_ ≠ (.slice (some ⟨go19, 0, none⟩) x7_3.length co8 : Value).ownBlock) u9 x9_3) := ⟨by rw [← hq_]; exact (ra_ HO_9.out)⟩; replace HB : Aside0 (Below w.heap.size w wr) := ⟨by rw [← hq_]; exact blw_⟩; replace HR226_0 : Aside0 (Kd.C k38 wr A226_0 (rd_L3 t223 x51_3).length (rd_L3 t223 x51_3)) := ⟨by rw [← hq_]; exact (by repeat (first | (with_reducible exact HR226_0.out) | (with_reducible refine Kd.C_alloc ?_ _) | (with_reducible refine Kd.C_drewN ?_ _) | (with_reducible refine Kd.C_drew ?_) | exact HR226_0.out))⟩; clear hq_)); have p228 : 0 ≤ (t227 : Int) := odt_; have q228 : t227 < (x7_3.length : Int) := odt_; obtain ⟨ad228, e228, hx228_0⟩ := Kd.at_int (Kd.R_reads' HO_7.out).2.2 t227 p228 q228; obtain rfl : (⟨go19, 0, none⟩ : Addr) = ad228 := (by injection e228); (first | simp only [add_plain] at hx228_0 | simp only [add_at] at hx228_0 | simp only [Addr.add, Nat.zero_add] at hx228_0 | skip); replace p228 := eq_true p228; replace q228 := eq_true q228; obtain ⟨Ao46, co46, eo46⟩ := Kd.R_slice HO_9.out; subst eo46; have p229 : 0 ≤ (x10_2 : Int) := odt_; have q229 : x10_2 < (x9_3.length : Int) := odt_; obtain ⟨ad229, e229, hx229_0⟩ := Kd.at_int (Kd.R_reads' HO_9.out).2.2 x10_2 p229 q229; cases e229; replace p229 := eq_true p229; replace q229 := eq_true q229; have p230 : 0 ≤ ((rd x9_3 x10_2) : Int) := odt_; have q230 : (rd x9_3 x10_2) < (x7_3.length : Int) := odt_; obtain ⟨ad230, e230, hx230_0⟩ := Kd.at_int (Kd.R_reads' HO_7.out).2.2 (rd x9_3 x10_2) p230 q230; obtain rfl : (⟨go19, 0, none⟩ : Addr) = ad230 := (by injection e230); (first | simp only [add_plain] at hx230_0 | simp only [add_at] at hx230_0 | simp only [Addr.add, Nat.zero_add] at hx230_0 | skip); replace p230 := eq_true p230; replace q230 := eq_true q230; have p44 : 0 ≤ (t227 : Int) := odt_; have q44 : (t227 : Int) < ((x7_3.length : Int) : Int) := odt_; obtain ⟨hx44_0, hf44_0⟩ := Kd.R_celln 0 HO_7.out (t227 : Int) p44 q44; replace p44 := eq_true p44; replace q44 := eq_true q44; obtain ⟨hy47_, hz47_⟩ := Kd.R_celln 0 HO_7.out (t227 : Int) (odt_) (odt_); have HP47 := Kd.R_putg HO_7.out (t227 : Int) (wrap64 ((rd x7_3 (rd x9_3 x10_2)) + 1))) | ((with_reducible refine gate_store (t := 3) (p := 73) rfl ?_); refine store_event (t := 3) (p := 73) (v := ?vo_w48) (w1 := (wr.setCell ⟨go19, (t227 : Int).toNat, none⟩ (.int .i64 (wrap64 ((rd x7_3 (rd x9_3 x10_2)) + 1))))) ?hg ?ho ?hn ?hr ?_; (case ho => rfl); (case hg => rfl); (case hn => rfl); (case hr => first | (go_simp; done) | (go_simp; rfl)); intro w48 hw; have hg : wr.grownBy w48 (some go19) := (by rw [hw]; exact HP47.2); have hp_ : Kd.R (Kd.int .i64) 3 w48 w.heap.size (fun k_ => some k_ ≠ (.slice (some ad229) x9_3.length co46 : Value).ownBlock) (.slice (some ⟨go19, 0, none⟩) x7_3.length co8) y231 := (by rw [hw, Ny231.out]; exact HP47.1); clear HP47; replace HO_9 := Aside0.mk (Kd.R_after (v := (.slice (some ⟨go19, 0, none⟩) x7_3.length co8)) (v1 := (.slice (some ⟨go19, 0, none⟩) x7_3.length co8)) (ok := (fun _ => True)) (by (with_reducible repeat (first | apply Kd.R_alloc | apply Kd.R_drewN | apply Kd.R_drew)); exact Kd.R_mono HO_9.out (fun _ hk => ⟨trivial, hk⟩)) hg (.inl rfl)); replace HO_49 := Aside0.mk (Kd.S_over' (v := (.slice (some ⟨go19, 0, none⟩) x7_3.length co8)) (sa_ HO_49.out) (Kd.R_typed HO_7.out) (by decide) hg); replace HL226_0 := Aside0.mk (Kd.R_over' (v := (.slice (some ⟨go19, 0, none⟩) x7_3.length co8)) (ra_ HL226_0.out) (Kd.R_typed HO_7.out) (by decide) hg); replace HO_7 := Aside0.mk (hp_); replace HB := Aside0.mk ((by rw [hw]; exact below_set (HB.out) GB19.out : Below w.heap.size w w48)); clear hg hw hp_) | ((with_reducible refine gate_builtin (b := .append) (xs := #[.tmp 74, .tmp 76]) rfl ?_); at_builtin; refine Kd.R_append (Kd.int .i64) (w0 := w) w.heap.size rfl (.tmp 74) (.tmp 76) 24 3 (.int .i64 0) 8 rfl Tryz.underlying24 info3 rfl (by decide) (by omega) (.slice (some ad229) x9_3.length co46) x9_3 t227 [.int .i64 t227] (fun k_ => some k_ ≠ (.slice (some ⟨go19, 0, none⟩) x7_3.length co8 : Value).ownBlock) (fun _ => False) rfl rfl ?aP (fun _ hk => hk.elim) ?aF ?aO ?aB ?aS ?aL ?_; (case aP => exact rfl); (case aB => exact blw_); (case aF => exact (fun k_ hk => Kd.fresh' (Kd.R_lt (ra_ HO_7.out)) k_ hk)); (case aO => exact (by (with_reducible repeat (first | apply Kd.R_alloc | apply Kd.R_drewN | apply Kd.R_drew)); exact Kd.R_mono HO_9.out (fun _ hk => hk.2))); (case aS => exact (below_size blw_)); (case aL => have := LMc45.out; omega); intro v233 w49 ho hb hg hat; rw [← Ny232.out] at ho; have HO234 := Aside0.mk (ho); replace HO_7 := Aside0.mk (Kd.R_after (ok := (fun _ => True)) (by (with_reducible repeat (first | apply Kd.R_alloc | apply Kd.R_drewN | apply Kd.R_drew)); exact Kd.R_mono HO_7.out (fun _ hk => ⟨trivial, hk⟩)) hg hat); replace HO_49 := Aside0.mk (Kd.S_over' (sa_ HO_49.out) (Kd.R_typed (ra_ HO_9.out)) (by decide) hg); replace HL226_0 := Aside0.mk (Kd.R_over' (ra_ HL226_0.out) (Kd.R_typed (ra_ HO_9.out)) (by decide) hg); replace HB := Aside0.mk (hb); clear HO_9; clear ho hb hg hat))
           (try simp only [← hl7_3])
           go_roundg k3
           case measure => have := HK1.out; have := HK2.out; have := HK3.out; omega
           case rel => exact ⟨(y231), (y232), (wrap64 (x51_3 + 1)), rsd_, H', ⟨by have := HK1.out; have := HK2.out; have := HK3.out; omega⟩, ⟨by (try simp only [hl7_1]); (try simp only [hl7_2]); (try simp only [hl7_3]); (with_reducible repeat (first | apply Kd.R_alloc | apply Kd.R_drewN | apply Kd.R_drew)); exact Kd.R_mono HO_7.out (fun _ hk => hk.2)⟩, ⟨by (try simp only [hl7_1]); (try simp only [hl7_2]); (try simp only [hl7_3]); (with_reducible repeat (first | apply Kd.R_alloc | apply Kd.R_drewN | apply Kd.R_drew)); exact HO234.out⟩, ⟨by (try simp only [hl7_1]); (try simp only [hl7_2]); (try simp only [hl7_3]); (with_reducible repeat (first | apply Kd.S_alloc | apply Kd.S_drewN | apply Kd.S_drew)); exact HO_49.out⟩, ⟨blw_⟩⟩
          ·rw [if_neg c39] at H
           have c39b0 : decide ((rd x7_3 t227) < 0) = false := decide_eq_false c39
           clear c39
           have H' := Aside0.mk H
           clear H
           have p226 : 0 ≤ (x51_3 : Int) := odt_
           have q226 : x51_3 < (t223.length : Int) := odt_
           obtain ⟨ad226, A226_0, c226_0, e226, hx226_0, hl226_0, hi226_0⟩ := at_L3 (Kd.S_reads' HO_49.out).2.2 x51_3 p226 q226
           cases e226
           obtain ⟨ce226, hce226, hMe226, hcc226⟩ := Kd.S_get HO_49.out [] x51_3 p226 (by first | exact q226 | exact odt_ | (have e_ := (Kd.S_reads' HO_49.out).1; omega))
           obtain ⟨ve226_0, rfl, ge226_0⟩ := hMe226
           have hv226_0 := hcc226 0 _ rfl
           rw [Nat.add_zero, show ((Kd.slice 38 k38)).sz = 1 from rfl, Nat.mul_one] at hv226_0
           replace hv226_0 := Option.some.inj (hv226_0.symm.trans hx226_0)
           rw [hv226_0] at ge226_0
           have HL226_0 := Aside0.mk (show Kd.R k38 38 _ _ _ _ (rd_L3 t223 x51_3) from ge226_0)
           clear hv226_0 ge226_0
           clear hcc226 hce226
           have HR226_0 := Aside0.mk hi226_0
           have HC226_0 := Aside0.mk hl226_0
           clear hi226_0 hl226_0
           replace p226 := eq_true p226
           replace q226 := eq_true q226
           go_wp2_with (first | ((with_reducible refine gate_callee (f := 39) rfl ?_); refine goesL_ (some 57) rfl rfl Tryz.func39 (by kernel_rfl) rfl #[.slice (some ad222) l1.length c1, .slice A226_0 (rd_L3 t223 x51_3).length c226_0] rfl amp_ ?_; (with_reducible refine (spec_flFind.calls k3 _ _ l1 _ _ (rd_L3 t223 x51_3) t227 _ ?side1 ?side2 ?side3 ?side4 A36.out).mono ?_); (case side1 => exact cd_ (Kd.C_below HR1.out HB.out)); (case side2 => exact HC1.out); (case side3 => repeat (first | exact (by repeat (first | (with_reducible exact HR226_0.out) | (with_reducible refine Kd.C_alloc ?_ _) | (with_reducible refine Kd.C_drewN ?_ _) | (with_reducible refine Kd.C_drew ?_) | exact HR226_0.out)) | (with_reducible refine Kd.C_alloc ?_ _) | (with_reducible refine Kd.C_drewN ?_ _) | (with_reducible refine Kd.C_drew ?_))); (case side4 => exact HC226_0.out); rintro e w' ⟨rfl, ⟨nd, rfl⟩⟩; refine ⟨_, rfl, ?_⟩; have p228 : 0 ≤ (t227 : Int) := odt_; have q228 : t227 < (x7_3.length : Int) := odt_; obtain ⟨ad228, e228, hx228_0⟩ := Kd.at_int (Kd.R_reads' HO_7.out).2.2 t227 p228 q228; obtain rfl : (⟨go19, 0, none⟩ : Addr) = ad228 := (by injection e228); (first | simp only [add_plain] at hx228_0 | simp only [add_at] at hx228_0 | simp only [Addr.add, Nat.zero_add] at hx228_0 | skip); replace p228 := eq_true p228; replace q228 := eq_true q228))
           (try simp only [← hl7_3])
           go_roundg k3
           case measure => have := HK1.out; have := HK2.out; have := HK3.out; omega
           case rel => exact ⟨(x7_3), (x9_3), (wrap64 (x51_3 + 1)), rsd_, H', ⟨by have := HK1.out; have := HK2.out; have := HK3.out; omega⟩, ⟨by (try simp only [hl7_1]); (try simp only [hl7_2]); (try simp only [hl7_3]); (with_reducible repeat (first | apply Kd.R_alloc | apply Kd.R_drewN | apply Kd.R_drew)); exact HO_7.out⟩, ⟨by (try simp only [hl7_1]); (try simp only [hl7_2]); (try simp only [hl7_3]); (with_reducible repeat (first | apply Kd.R_alloc | apply Kd.R_drewN | apply Kd.R_drew)); exact HO_9.out⟩, ⟨by (try simp only [hl7_1]); (try simp only [hl7_2]); (try simp only [hl7_3]); (with_reducible repeat (first | apply Kd.S_alloc | apply Kd.S_drewN | apply Kd.S_drew)); exact HO_49.out⟩, ⟨blw_⟩⟩
         ·rw [if_neg c33] at H
          have c33b0 : decide (x51_3 < (t223.length : Int)) = false := decide_eq_false c33
          (try (have c33b90 := c33b0; rw [hl7_1] at c33b90))
          (try (have c33b91 := c33b0; rw [hl7_2] at c33b91))
          (try (have c33b92 := c33b0; rw [hl7_3] at c33b92))
          clear c33
          have H' := Aside0.mk H
          clear H
          go_wp2
          (try simp only [← hl7_2, ← hl7_3])
          go_roundg k3
          case measure => have := HK1.out; have := HK2.out; have := HK3.out; omega
          case rel => exact ⟨(x7_3), (x9_3), (wrap64 (x10_2 + 1)), rsd_, H', ⟨by have := HK1.out; have := HK2.out; have := HK3.out; omega⟩, ⟨by (try simp only [hl7_1]); (try simp only [hl7_2]); (try simp only [hl7_3]); (with_reducible repeat (first | apply Kd.R_alloc | apply Kd.R_drewN | apply Kd.R_drew)); exact HO_7.out⟩, ⟨by (try simp only [hl7_1]); (try simp only [hl7_2]); (try simp only [hl7_3]); (with_reducible repeat (first | apply Kd.R_alloc | apply Kd.R_drewN | apply Kd.R_drew)); exact HO_9.out⟩, ⟨blw_⟩⟩
      ·rw [if_neg c25] at H
       have c25b0 : decide (x10_2 < (x9_2.length : Int)) = false := decide_eq_false c25
       clear c25
       obtain rfl := Option.some.inj H
       obtain ⟨Ao50, co50, eo50⟩ := Kd.R_slice HO_9.out
       subst eo50
       go_wp2
       go_ret
       exact ⟨_, by first | rfl | (simp [errW_none, errW_some] <;> rfl) | (simp [*, errW_none, errW_some] <;> rfl), by (with_reducible repeat (first | apply Kd.R_alloc | apply Kd.R_drewN | apply Kd.R_drew)); exact Kd.R_mono HO_7.out (fun _ hk => trivial), blw_⟩

/-! ### spec_flLayers: function 14 -/
/-- Nought as often as is wanted for place x. -/
def grow0 (out : List Int) (x : Int) : List Int := out ++ List.replicate (x + 1 - (out.length : Int)).toNat 0
/-- How many there are of each distance, and the place of the first greatest one. -/
def lyGo (far : List Int) : List Int → Nat → List Int → Nat → Option (List Int × Int)
 | [], _, out, best => some (out, (best : Int))
 | x :: r, i, out, best => if (0 ≤ x ∧ x ≤ 1000) ∧ out.length ≤ 100000 ∧ best < far.length then lyGo far r (i + 1) ((grow0 out x).set x.toNat (wrap64 (rd (grow0 out x) x + 1))) (if rd far (best : Int) < x then i else best) else none
theorem grow0_more {out : List Int} {x : Int} (h : (out.length : Int) ≤ x) : grow0 (out ++ [0]) x = grow0 out x := by
 unfold grow0
 rw [List.append_assoc]
 congr 1
 rw [List.length_append, List.length_singleton, show (x + 1 - (out.length : Int)).toNat = (x + 1 - ((out.length + 1 : Nat) : Int)).toNat + 1 by omega, List.replicate_succ]
 rfl
theorem grow0_same {out : List Int} {x : Int} (h : ¬ (out.length : Int) ≤ x) : grow0 out x = out := by
 unfold grow0
 rw [show (x + 1 - (out.length : Int)).toNat = 0 by omega, List.replicate_zero, List.append_nil]
/-- A list of numbers that is read, apart from the row of one's own v. -/
structure Iv (w : World) (v : Value) (A : Option Addr) (l : List Int) : Prop where
 c : (Kd.int .i64).C w A l.length l
 far : ∀ a, A = some a → l ≠ [] → some a.block ≠ v.ownBlock
theorem i_add (a : Addr) (n : Nat) : (a.add n).block = a.block := by
 unfold Addr.add
 split <;> rfl
theorem i_blk {w : World} {A : Option Addr} {l : List Int} (h : (Kd.int .i64).C w A l.length l) (hne : l ≠ []) (a : Addr) (ha : A = some a) : a.block < w.heap.size := by
 have hp := List.length_pos_iff.2 hne
 obtain ⟨ad, e, hc⟩ := Kd.at_int h 0 (by omega) (by omega)
 rw [ha] at e
 injection e with e
 subst e
 have h1 := World.block_lt_of_cell? w _ hc
 rwa [i_add] at h1
theorem Iv.below {w w1 : World} {v : Value} {A : Option Addr} {l : List Int} (h : Iv w v A l) (hb : Below w.heap.size w w1) : Iv w1 v A l := ⟨Kd.C_below h.c hb, h.far⟩
theorem i_move {w w1 : World} {A : Option Addr} {l : List Int} (h : (Kd.int .i64).C w A l.length l) (hne : ∀ a, l ≠ [] → A = some a → a.block < w.heap.size → w1.heap[a.block]? = w.heap[a.block]?) : (Kd.int .i64).C w1 A l.length l := by
 refine ⟨h.1, h.2.1, fun hn => ?_⟩
 obtain ⟨ad, e, hc⟩ := h.2.2 hn
 refine ⟨ad, e, fun j p hj => ?_⟩
 obtain ⟨c, hs, hr, hcell⟩ := hc j p hj
 refine ⟨c, hs, hr, fun i u hu => ?_⟩
 have h1 := hcell i u hu
 have h2 := World.block_lt_of_cell? w _ h1
 rw [i_add] at h2
 have h3 : w1.cell? (ad.add (j * (Kd.int .i64).sz + i)) = w.cell? (ad.add (j * (Kd.int .i64).sz + i)) := World.cell?_of_block (by rw [i_add]; exact hne ad (List.length_pos_iff.1 hn) e h2)
 exact h3.trans h1
theorem Iv.grown {W w2 : World} {v v2 : Value} {A : Option Addr} {l : List Int} (h : Iv W v A l) (hg : W.grownBy w2 v.ownBlock) (hat : v2.ownBlock = v.ownBlock ∨ ∃ b, v2.ownBlock = some b ∧ W.heap.size ≤ b) : Iv w2 v2 A l := by
 refine ⟨i_move h.c (fun a hne ha hl => hg.block _ hl (h.far a ha hne)), fun a ha hne he => ?_⟩
 rcases hat with h1 | ⟨b, h1, h2⟩
 ·exact h.far a ha hne (he.trans h1)
 ·rw [h1] at he
  injection he with he
  have := i_blk h.c hne a ha
  omega
def spec_flLayers.f (k : Nat) (a0 : Int) (l1 : List S38) : Option (List Int × Int) := (spec_poAll.f a0).bind fun T => (spec_flFar.f k a0 T l1).bind fun far => if far.length ≤ 1000000 then lyGo far far 0 [] 0 else none
theorem spec_flLayers.mono : ∀ a0 a1 k, LeO (spec_flLayers.f k a0 a1) (spec_flLayers.f (k + 1) a0 a1) := by
 intro a0 a1 k
 unfold spec_flLayers.f
 exact LeO.bind (LeO.refl _) (fun T => LeO.bind (spec_flFar.mono _ _ _ _) (fun far => LeO.refl _))
set_option maxHeartbeats 8000000 in
set_option maxRecDepth 100000 in
theorem spec_flLayers.calls (k : Nat) (a0 : Int) (A1 : Option Addr) (c1 : Nat) (l1 : List S38) (r1 : List Int) (r2 : Int) (w : World) (hr1 : Kd.C k38 w A1 l1.length l1) (hc1 : l1.length ≤ c1) (h : spec_flLayers.f k a0 l1 = some (r1, r2)) :
  Calls Tryz.prog 14 #[.int .i64 a0, .slice A1 l1.length c1] w fun e w' => ∃ v0_ : Value, e = .returned (.tuple #[v0_, .int .i64 r2]) ∧ Kd.R (Kd.int .i64) 3 w' w.heap.size (fun _ => True) v0_ r1 ∧ Below w.heap.size w w' := by
 have HR1 := Aside0.mk hr1
 have HC1 := Aside0.mk hc1
 clear hr1 hc1
 unfold spec_flLayers.f at h
 obtain ⟨T, hT, h⟩ := Option.bind_eq_some_iff.mp h
 obtain ⟨far, hF, h⟩ := Option.bind_eq_some_iff.mp h
 by_cases hlen : far.length ≤ 1000000
 case neg => rw [if_neg hlen] at h; cases h
 rw [if_pos hlen] at h
 have HT := Aside0.mk hT
 have HF := Aside0.mk hF
 have HLN := Aside0.mk hlen
 have H' := Aside0.mk h
 clear hT hF hlen h
 go_enter Tryz.func14, Tryz.ntmps14
 go_wp2_with (first
  | ((with_reducible refine gate_callee (f := 22) rfl ?_); refine goesL_ _ rfl rfl Tryz.func22 (by kernel_rfl) rfl #[.int .i64 a0] rfl (by (try simp only [List.map_toArray, List.map_cons, List.map_nil]); first | done | rfl) ?_; (refine (spec_poAll.calls a0 T _ HT.out).mono ?_); rintro e w3 ⟨vT, rfl, hS, hb⟩; obtain ⟨AT, cT, rfl⟩ := Kd.S_slice hS; refine ⟨_, rfl, ?_⟩; have HS3 := Aside0.mk hS; have HB3 := Aside0.mk hb; clear hS hb)
  | ((with_reducible refine gate_callee (f := 23) rfl ?_); refine goesL_ _ rfl rfl Tryz.func23 (by kernel_rfl) rfl #[.int .i64 a0, .slice AT T.length cT, .slice A1 l1.length c1] rfl (by (try simp only [List.map_toArray, List.map_cons, List.map_nil]); first | done | rfl) ?_; (refine (spec_flFar.calls k a0 AT cT T A1 c1 l1 far _ (Kd.S_reads' HS3.out).2.2 (Kd.S_reads' HS3.out).2.1 (Kd.C_below HR1.out HB3.out) HC1.out HF.out).mono ?_); rintro e w4 ⟨vF, rfl, hO, hb⟩; obtain ⟨AF, cF, rfl⟩ := Kd.R_slice hO; refine ⟨_, rfl, ?_⟩; have HI4 := Aside0.mk ((⟨(Kd.R_reads' hO).2.2, fun a _ _ he => by simp [Value.ownBlock] at he⟩ : Iv w4 (.slice none 0 0) AF far)); have HB4 := Aside0.mk (below_step HB3.out hb); clear hO hb))
 go_loopg [8, 9, 20] far.length (fun kq v8 v9 v20 w' => ∃ (i : Nat) (out : List Int) (best : Nat), v20 = .int .i64 (i : Int) ∧ v9 = .int .i64 (best : Int) ∧ Aside0 (i + kq = far.length) ∧ Aside0 (lyGo far (far.drop i) i out best = some (r1, r2)) ∧ Aside0 (Iv w' v8 AF far) ∧ Aside0 (Kd.R (Kd.int .i64) 3 w' w.heap.size (fun _ => True) v8 out) ∧ Aside0 (Below w.heap.size w w'))
 case atStart => exact ⟨0, [], 0, rfl, rfl, ⟨Nat.zero_add _⟩, by rw [List.drop_zero]; exact H', HI4, ⟨Kd.R_nil _ _ _ _ _⟩, HB4⟩
 case round =>
  clear H' HI4 HB4
  obtain ⟨i, out, best, rfl, rfl, HI, HA, HV, HO, HB⟩ := hrel
  by_cases hi : i < far.length
  case neg =>
   have hlt : decide ((i : Int) < (far.length : Int)) = false := decide_eq_false (by omega)
   have H2 := HA.out
   rw [List.drop_of_length_le (by omega)] at H2
   simp only [lyGo] at H2
   injection H2 with H2
   injection H2 with e1 e2
   subst e1 e2
   clear HA
   go_wp2
   go_ret2
   exact ⟨_, rfl, HO.out, HB.out⟩
  case pos =>
   have hlt : decide ((i : Int) < (far.length : Int)) = true := decide_eq_true (by omega)
   have hp : (0 ≤ (i : Int)) = True := eq_true (by omega)
   have hq : ((i : Int) < (far.length : Int)) = True := eq_true (by omega)
   obtain ⟨ad, e, hx⟩ := Kd.at_int HV.out.c (i : Int) (by omega) (by omega)
   subst e
   rw [Int.toNat_natCast] at hx
   obtain ⟨x, hxe⟩ : ∃ x, x = rd far (i : Int) := ⟨_, rfl⟩
   have hdrop : far.drop i = x :: far.drop (i + 1) := by
    rw [List.drop_eq_getElem_cons hi, hxe]
    unfold rd
    rw [Int.toNat_natCast, List.getD_eq_getElem?_getD, List.getElem?_eq_getElem hi]
    rfl
   rw [← hxe] at hx
   have H2 := HA.out
   rw [hdrop] at H2
   simp only [lyGo] at H2
   by_cases hlim : (0 ≤ x ∧ x ≤ 1000) ∧ out.length ≤ 100000 ∧ best < far.length
   case neg => rw [if_neg hlim] at H2; cases H2
   rw [if_pos hlim] at H2
   have HL := Aside0.mk hlim
   have HA2 := Aside0.mk H2
   clear H2 HA hlim hxe hdrop
   cases gk with
   | zero => exact absurd HI.out (by omega)
   | succ kq =>
   have pb : (0 ≤ (best : Int)) = True := eq_true (by omega)
   have qb : ((best : Int) < (far.length : Int)) = True := eq_true (by have := HL.out; omega)
   go_wp2
   go_loopg [8] (x + 1 - (out.length : Int)).toNat (fun kq v8 w' => ∃ (o2 : List Int), Aside0 ((x + 1 - (o2.length : Int)).toNat ≤ kq) ∧ Aside0 (o2.length ≤ 1000000) ∧ Aside0 (grow0 o2 x = grow0 out x) ∧ Aside0 (Iv w' v8 (some ad) far) ∧ Aside0 (Kd.R (Kd.int .i64) 3 w' w.heap.size (fun _ => True) v8 o2) ∧ Aside0 (Below w.heap.size w w'))
   case atStart => exact ⟨out, ⟨Nat.le_refl _⟩, ⟨by have := HL.out; omega⟩, ⟨rfl⟩, HV, HO, HB⟩
   case round =>
    clear HV HO HB hx
    obtain ⟨o2, HK, HN, HG, HV, HO, HB⟩ := hrel
    by_cases hlen : (o2.length : Int) ≤ x
    case pos =>
     have hdec : decide ((o2.length : Int) ≤ x) = true := decide_eq_true hlen
     cases gk with
     | zero => exact absurd HK.out (by omega)
     | succ k2 =>
      obtain ⟨A8, c8, e8⟩ := Kd.R_slice HO.out
      subst e8
      go_wp2_with (first | ((with_reducible refine gate_builtin (b := .append) (xs := #[.tmp 29, .tmp 30]) rfl ?_); at_builtin; refine Kd.R_append (Kd.int .i64) (w0 := w) w.heap.size rfl (.tmp 29) (.tmp 30) 24 3 (.int .i64 0) 8 rfl Tryz.underlying24 info3 rfl (by decide) (by omega) (.slice A8 o2.length c8) o2 0 [.int .i64 0] (fun _ => True) (fun _ => False) rfl rfl ?aP (fun _ hk => hk.elim) ?aF ?aO ?aB ?aS ?aL ?_; (case aP => exact rfl); (case aB => exact HB.out); (case aF => exact fun _ _ => trivial); (case aO => exact HO.out); (case aS => exact below_size HB.out); (case aL => have := HN.out; omega); intro v1 w9 ho hb hg hat; have HO9 := Aside0.mk ho; have HB9 := Aside0.mk hb; have HV9 := Aside0.mk (HV.out.grown hg hat); clear ho hb hg hat))
      go_roundg k2
      case measure => omega
      case rel => exact ⟨o2 ++ [0], ⟨by rw [List.length_append, List.length_singleton]; have := HK.out; omega⟩, ⟨by rw [List.length_append, List.length_singleton]; have := HL.out; omega⟩, ⟨(grow0_more hlen).trans HG.out⟩, HV9, HO9, HB9⟩
    case neg =>
     have hdec : decide ((o2.length : Int) ≤ x) = false := decide_eq_false hlen
     have he : o2 = grow0 out x := (grow0_same hlen).symm.trans HG.out
     have hA3 := HA2.out
     rw [← he] at hA3
     have HA3 := Aside0.mk hA3
     clear hA3 HA2
     have hx0 := HL.out.1.1
     obtain ⟨g8, c8, e8, hgb, hgl, cl8, HG8⟩ := Kd.R_form HO.out (by omega)
     subst e8
     have GB8 := Aside0.mk hgb
     obtain ⟨hx8, hf8⟩ := Kd.R_celln 0 HO.out x hx0 (by omega)
     have HP := Aside0.mk (Kd.R_putg HO.out x (wrap64 (rd o2 x + 1)))
     have px : (0 ≤ x) = True := eq_true hx0
     have qx : (x < (o2.length : Int)) = True := eq_true (by omega)
     have HH := Aside0.mk hgl
     clear hgb hgl HG8 he HG
     by_cases hc : rd far (best : Int) < x
     case pos =>
      have hcd : decide (x > rd far (best : Int)) = true := decide_eq_true hc
      rw [if_pos hc] at HA3
      go_wp2_with (first | ((with_reducible refine gate_store (t := 3) (p := 37) rfl ?_); refine store_event (t := 3) (p := 37) (v := ?vo) (w1 := (wr.setCell ⟨g8, x.toNat, none⟩ (.int .i64 (wrap64 (rd o2 x + 1))))) ?hg ?ho ?hn ?hr ?_; (case ho => rfl); (case hg => rfl); (case hn => rfl); (case hr => first | (go_simp; done) | (go_simp; rfl)); intro w14 hw; have HO9 : Aside0 (Kd.R (Kd.int .i64) 3 w14 w.heap.size (fun _ => True) (.slice (some ⟨g8, 0, none⟩) o2.length c8) (o2.set x.toNat (wrap64 (rd o2 x + 1)))) := ⟨by rw [hw]; exact HP.out.1⟩; have HV9 : Aside0 (Iv w14 (.slice (some ⟨g8, 0, none⟩) o2.length c8) (some ad) far) := ⟨HV.out.grown (by rw [hw]; exact HP.out.2) (.inl rfl)⟩; have HB9 : Aside0 (Below w.heap.size w w14) := ⟨by rw [hw]; exact below_set HB.out GB8.out⟩; clear hw; obtain ⟨ad2, e2, hxb⟩ := Kd.at_int HV9.out.c (best : Int) (by omega) (by have := HL.out; omega); injection e2 with e2; subst e2; rw [Int.toNat_natCast] at hxb))
      go_roundg kq
      case measure => omega
      case rel => exact ⟨i + 1, _, i, congrArg (Value.int .i64) (by have := HLN.out; unfold wrap64; omega), rfl, ⟨by have := HI.out; omega⟩, HA3, HV9, HO9, HB9⟩
     case neg =>
      have hcd : decide (x > rd far (best : Int)) = false := decide_eq_false hc
      rw [if_neg hc] at HA3
      go_wp2_with (first | ((with_reducible refine gate_store (t := 3) (p := 37) rfl ?_); refine store_event (t := 3) (p := 37) (v := ?vo) (w1 := (wr.setCell ⟨g8, x.toNat, none⟩ (.int .i64 (wrap64 (rd o2 x + 1))))) ?hg ?ho ?hn ?hr ?_; (case ho => rfl); (case hg => rfl); (case hn => rfl); (case hr => first | (go_simp; done) | (go_simp; rfl)); intro w14 hw; have HO9 : Aside0 (Kd.R (Kd.int .i64) 3 w14 w.heap.size (fun _ => True) (.slice (some ⟨g8, 0, none⟩) o2.length c8) (o2.set x.toNat (wrap64 (rd o2 x + 1)))) := ⟨by rw [hw]; exact HP.out.1⟩; have HV9 : Aside0 (Iv w14 (.slice (some ⟨g8, 0, none⟩) o2.length c8) (some ad) far) := ⟨HV.out.grown (by rw [hw]; exact HP.out.2) (.inl rfl)⟩; have HB9 : Aside0 (Below w.heap.size w w14) := ⟨by rw [hw]; exact below_set HB.out GB8.out⟩; clear hw; obtain ⟨ad2, e2, hxb⟩ := Kd.at_int HV9.out.c (best : Int) (by omega) (by have := HL.out; omega); injection e2 with e2; subst e2; rw [Int.toNat_natCast] at hxb))
      go_roundg kq
      case measure => omega
      case rel => exact ⟨i + 1, _, best, congrArg (Value.int .i64) (by have := HLN.out; unfold wrap64; omega), rfl, ⟨by have := HI.out; omega⟩, HA3, HV9, HO9, HB9⟩

end Go.Proofs.YtgblginphicacaaGreatDoor.PFnExactCountByFlips
