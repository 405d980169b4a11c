-- WRITTEN BY A PROGRAM OF THIS WORK (wip/tools/ppatch.py) for this claim.
import Derived.Test.YtgblginphicacaaDoorPFnExactFirstFlipsx0
import Derived.Test.YtgblginphicacaaDoorPFnExactFirstFlipsx2
import Derived.Test.YtgblginphicacaaDoorPFnExactFirstFlipsx9
import Derived.Test.YtgblginphicacaaDoorPFnExactFirstFlipsx17
namespace Go.Proofs.YtgblginphicacaaDoor.PFnExactFirstFlips
open Go.RowKit Go.Proofs.YtgblginphicacaaDoorW.PrintWords Go.Proofs.YtgblginphicacaaDoorW.PrintLast Go.Proofs.YtgblginphicacaaDoorW.PrintMore
attribute [local go_sem] max2_int min2_int max_two min_two max_three min_three max_four min_four   -- for this text's walks alone
set_option linter.unusedVariables false
set_option linter.unusedSimpArgs false

/-! ### laws_markDiagonalS: function 16 -/
def laws_markDiagonalS.l0 : Nat → List (S49) → Int → Int → Option (Int × (List (S49)))
 | 0, _, _, _ => none
 | k + 1, x0, x1, x5 => if x5 < (x0.length : Int) then (if 0 ≤ x5 then ((some (x0.set (x5 : Int).toNat (⟨x1, (rd_T49 x0 x5).f1⟩ : S49) : List (S49))).bind fun y370 => (laws_markDiagonalS.l0 k (y370.set (x5 : Int).toNat (⟨(rd_T49 y370 x5).f0, wrap64 (x1 + 1)⟩ : S49)) (wrap64 ((wrap64 (x1 + 1)) + 1)) (wrap64 (x5 + 1)))) else (none)) else (some (x1, x0))
def laws_markDiagonalS.f (k : Nat) (l0 : List (S49)) (a1 : Int) : Option (Int × (List (S49))) := laws_markDiagonalS.l0 k l0 a1 0
theorem laws_markDiagonalS.mono_l : ∀ k, (∀ y0 y1 y2, LeO (laws_markDiagonalS.l0 k y0 y1 y2) (laws_markDiagonalS.l0 (k + 1) y0 y1 y2))
 | 0 => fun _ _ _ r h => by simp [laws_markDiagonalS.l0] at h
 | k + 1 => by
  have ih0 := laws_markDiagonalS.mono_l k
  ·intro y0 y1 y2
   unfold laws_markDiagonalS.l0
   repeat' first
   | (with_reducible exact ih0 _ _ _)
   | (with_reducible exact LeO.refl _)
   | (with_reducible exact LeO.none _)
   | (with_reducible refine LeO.ite ?_ ?_)
   | (with_reducible refine LeO.bind ?_ (fun _ => ?_))
   | exact ih0 _ _ _
   | exact LeO.none _
   | refine LeO.ite ?_ ?_
   | refine LeO.bind ?_ (fun _ => ?_)
theorem laws_markDiagonalS.mono : ∀ a0 a1 k, LeO (laws_markDiagonalS.f k a0 a1) (laws_markDiagonalS.f (k + 1) a0 a1) := by
 intro a0 a1 k
 have ih0 := laws_markDiagonalS.mono_l k
 unfold laws_markDiagonalS.f
 repeat' first
   | (with_reducible exact ih0 _ _ _)
   | (with_reducible exact LeO.refl _)
   | (with_reducible exact LeO.none _)
   | (with_reducible refine LeO.ite ?_ ?_)
   | (with_reducible refine LeO.bind ?_ (fun _ => ?_))
   | exact ih0 _ _ _
   | exact LeO.none _
   | refine LeO.ite ?_ ?_
   | refine LeO.bind ?_ (fun _ => ?_)
set_option maxHeartbeats 8000000 in
set_option maxRecDepth 100000 in
theorem laws_markDiagonalS.calls (k : Nat) (P0_ : Nat → Prop) (u9000_ : Value) (l0 : List (S49)) (a1 : Int) (r1 : Int) (r2 : List (S49)) (w0 w : World) (hB : Below w0.heap.size w0 w) (ho0 : Kd.R k49 49 w w0.heap.size P0_ u9000_ l0) (h : laws_markDiagonalS.f k l0 a1 = some (r1, r2)) :
  Calls Tryd.prog 16 #[u9000_, .int .i64 a1] w fun e w' => e = .returned (.int .i64 r1) ∧ Kd.R k49 49 w' w0.heap.size (fun k_ => (P0_ k_ ∨ w.heap.size ≤ k_)) u9000_ r2 ∧ Below w0.heap.size w0 w' ∧ Kept w w' (fun k_ => P0_ k_) := by
 have HO0 := Aside0.mk (show Kd.R k49 49 w w0.heap.size (fun k_ => (P0_ k_ ∨ w.heap.size ≤ k_)) u9000_ l0 from Kd.R_mono ho0 (fun k_ hk => (.inl hk)))
 have HK := Aside0.mk (Kept.refl w (fun k_ => P0_ k_))
 have HW0 := Aside0.mk hB.size
 have HB := Aside0.mk hB
 clear hB
 have H : (laws_markDiagonalS.l0 k l0 a1 0) = some (r1, r2) := h
 clear h
 have H' := Aside0.mk H
 clear H
 go_enter Tryd.func16, Tryd.ntmps16
 go_wp2
 go_loopg [1, 5] k (fun kq v1 v5 w' => ∃ (x0_1 : List (S49)) (x1_1 : Int) (x5_1 : Int), v1 = .int .i64 x1_1 ∧ v5 = .int .i64 x5_1 ∧ Aside0 (laws_markDiagonalS.l0 kq x0_1 x1_1 x5_1 = some (r1, r2)) ∧ Aside0 (kq ≤ k) ∧ Aside0 (Kd.R k49 49 w' w0.heap.size (fun k_ => (P0_ k_ ∨ w.heap.size ≤ k_)) u9000_ x0_1) ∧ Aside0 (Kept w w' (fun k_ => P0_ k_)) ∧ Aside0 (Below w0.heap.size w0 w'))
 case atStart => exact ⟨(l0), (a1), (0), rsd_, rsd_, H', ⟨Nat.le_refl _⟩, ⟨ra_ HO0.out⟩, ⟨by repeat (first | (with_reducible first | exact HK.out | apply Kept.alloc | apply Kept.drewN | apply Kept.drew) | exact HK.out)⟩, ⟨blw_⟩⟩
 case round =>
  clear H'
  try clear c1
  try clear p2
  try clear HO_0
  obtain ⟨x0_1, x1_1, x5_1, rfl, rfl, HA, HK1, HO_0, HK, HB⟩ := hrel
  cases gk with
  | zero => exact absurd HA.out (by simp [laws_markDiagonalS.l0])
  | succ k1 =>
   have H := HA.out
   clear HA
   simp only [laws_markDiagonalS.l0] at H
   by_cases c3 : x5_1 < (x0_1.length : Int)
   ·rw [if_pos c3] at H
    have c3b0 : decide (x5_1 < (x0_1.length : Int)) = true := decide_eq_true c3
    clear c3
    by_cases c4 : 0 ≤ x5_1
    case neg=>rw [if_neg c4] at H;exact absurd H (by simp)
    rw [if_pos c4] at H
    have c4b0 : decide (0 ≤ x5_1) = true := decide_eq_true c4
    clear c4
    obtain ⟨y370, hy370⟩ : ∃ y_ : List (S49), y_ = (x0_1.set (x5_1 : Int).toNat (⟨x1_1, (rd_T49 x0_1 x5_1).f1⟩ : S49)) := ⟨_, rfl⟩
    replace H : (laws_markDiagonalS.l0 k1 (y370.set (x5_1 : Int).toNat (⟨(rd_T49 y370 x5_1).f0, wrap64 (x1_1 + 1)⟩ : S49)) (wrap64 ((wrap64 (x1_1 + 1)) + 1)) (wrap64 (x5_1 + 1))) = some (r1, r2) := hyy_ hy370 H
    have Ny370 := Aside0.mk hy370
    clear hy370
    obtain ⟨y371, hy371⟩ : ∃ y_ : List (S49), y_ = (y370.set (x5_1 : Int).toNat (⟨(rd_T49 y370 x5_1).f0, wrap64 (x1_1 + 1)⟩ : S49)) := ⟨_, rfl⟩
    replace H : (laws_markDiagonalS.l0 k1 y371 (wrap64 ((wrap64 (x1_1 + 1)) + 1)) (wrap64 (x5_1 + 1))) = some (r1, r2) := hyy_ hy371 H
    have Ny371 := Aside0.mk hy371
    clear hy371
    have H' := Aside0.mk H
    clear H
    obtain ⟨Ao7, co7, eo7⟩ := Kd.R_slice HO_0.out
    subst eo7
    have p5 : 0 ≤ (x5_1 : Int) := odt_
    have q5 : (x5_1 : Int) < ((x0_1.length : Int) : Int) := odt_
    obtain ⟨go5, co5, eo5, gb5, gl5, cl5, HG5⟩ := Kd.R_form HO_0.out (by omega)
    (first | cases eo5 | (injection eo5 with ea_ en_ ec_; (first | subst ea_ | (injection ea_ with ea_; subst ea_)); subst ec_; clear en_))
    have GB5 := Aside0.mk gb5
    have GG5 := Aside0.mk HG5
    clear gb5 gl5 HG5
    have HMgo5 := Aside0.mk (show (P0_ go5 ∨ w.heap.size ≤ go5) from (HO_0.out.1 _ rfl))
    obtain ⟨ce5, hcl5, hM5, hcc5, hfr5⟩ := Kd.R_elem HO_0.out z49 (x5_1 : Int) p5 q5
    obtain rfl := k49_openM hM5
    have hx5_0 : wr.cell? ⟨go5, (x5_1 : Int).toNat * 2, none⟩ = some (.int .i64 ((rd_T49 x0_1 x5_1).f0)) := hcc5 0 _ rfl
    have hx5_1 : wr.cell? ⟨go5, (x5_1 : Int).toNat * 2 + 1, none⟩ = some (.int .i64 ((rd_T49 x0_1 x5_1).f1)) := hcc5 1 _ rfl
    have hf5_0 : wr.frozen? ⟨go5, (x5_1 : Int).toNat * 2, none⟩ = false := hfr5 0
    have hf5_1 : wr.frozen? ⟨go5, (x5_1 : Int).toNat * 2 + 1, none⟩ = false := hfr5 1
    clear hcl5 hcc5 hfr5 hM5
    replace p5 := eq_true p5
    replace q5 := eq_true q5
    have HX8 := Aside0.mk (show Kd.R k49 49 wr w0.heap.size (fun k_ => (P0_ k_ ∨ w.heap.size ≤ k_)) (.slice (some ⟨go5, 0, none⟩) x0_1.length co7) x0_1 from (ra_ HO_0.out))
    obtain ⟨ce8, hcl8, hM8, hcc8, hfr8⟩ := Kd.R_elem HX8.out z49 (x5_1 : Int) (odt_) (by have h_ : (x5_1 : Int) < ((x0_1.length : Int) : Int) := odt_; first | exact h_ | (have e_ := (Kd.R_reads' HO_0.out).1; omega) | simpa using h_)
    obtain rfl := k49_openM hM8
    have HP8 := Kd.R_seg HX8.out (x5_1 : Int) (odt_) (by have h_ : (x5_1 : Int) < ((x0_1.length : Int) : Int) := odt_; first | exact h_ | (have e_ := (Kd.R_reads' HO_0.out).1; omega) | simpa using h_) (seg := [.int .i64 x1_1]) (j := 0) hcl8 hcc8 (show 1 ≤ 2 from by decide) (x' := (⟨x1_1, (rd_T49 x0_1 x5_1).f1⟩ : S49)) (k49_mkM _ _ _ (⟨x1_1, (rd_T49 x0_1 x5_1).f1⟩ : S49) ) (fun _ hk => hk)
    have hx8_0 := hcc8 0 _ rfl
    (try simp only [show (k49).sz = 2 from rfl, Nat.mul_one, Nat.add_zero] at hx8_0)
    have hf8_0 := hfr8 0
    (try simp only [show (k49).sz = 2 from rfl, Nat.mul_one, Nat.add_zero] at hf8_0)
    clear hcl8 hcc8 hfr8 hM8
    go_wp2_with (first | ((with_reducible refine gate_store (t := 3) (p := 16) rfl ?_); refine store_event (t := 3) (p := 16) (v := ?vo_w9) (w1 := (wr.setCell ⟨go5, (x5_1 : Int).toNat * 2, none⟩ (.int .i64 x1_1))) ?hg ?ho ?hn ?hr ?_; (case ho => rfl); (case hg => rfl); (case hn => rfl); (case hr => first | (go_simp; done) | (go_simp; rfl)); intro w9 hw; have hg : wr.grownBy w9 (some go5) := (by rw [hw]; exact HP8.2); have hp_ : Kd.R k49 49 w9 w0.heap.size (fun k_ => (P0_ k_ ∨ w.heap.size ≤ k_)) (.slice (some ⟨go5, 0, none⟩) x0_1.length co7) y370 := (by rw [hw, Ny370.out]; exact HP8.1); clear HP8; replace HB := Aside0.mk ((by rw [hw]; exact below_set (HB.out) GB5.out : Below w0.heap.size w0 w9)); replace HK := Aside0.mk (Kept.of_grown (S := (fun k_ => P0_ k_)) hg (by repeat (first | (with_reducible first | exact HK.out | apply Kept.alloc | apply Kept.drewN | apply Kept.drew) | exact HK.out)) (fun k_ e_ => (HO_0.out.1 k_ e_))); replace HO_0 := Aside0.mk (hp_); clear hg hw hp_; have p6 : 0 ≤ (x5_1 : Int) := odt_; have q6 : (x5_1 : Int) < ((x0_1.length : Int) : Int) := odt_; obtain ⟨ce6, hcl6, hM6, hcc6, hfr6⟩ := Kd.R_elem HO_0.out z49 (x5_1 : Int) p6 q6; obtain rfl := k49_openM hM6; have hx6_0 : w9.cell? ⟨go5, (x5_1 : Int).toNat * 2, none⟩ = some (.int .i64 ((rd_T49 y370 x5_1).f0)) := hcc6 0 _ rfl; have hx6_1 : w9.cell? ⟨go5, (x5_1 : Int).toNat * 2 + 1, none⟩ = some (.int .i64 ((rd_T49 y370 x5_1).f1)) := hcc6 1 _ rfl; have hf6_0 : w9.frozen? ⟨go5, (x5_1 : Int).toNat * 2, none⟩ = false := hfr6 0; have hf6_1 : w9.frozen? ⟨go5, (x5_1 : Int).toNat * 2 + 1, none⟩ = false := hfr6 1; clear hcl6 hcc6 hfr6 hM6; replace p6 := eq_true p6; replace q6 := eq_true q6; have HX10 := Aside0.mk (show Kd.R k49 49 w9 w0.heap.size (fun k_ => (P0_ k_ ∨ w.heap.size ≤ k_)) (.slice (some ⟨go5, 0, none⟩) x0_1.length co7) y370 from (ra_ HO_0.out)); obtain ⟨ce10, hcl10, hM10, hcc10, hfr10⟩ := Kd.R_elem HX10.out z49 (x5_1 : Int) (odt_) (by have h_ : (x5_1 : Int) < ((x0_1.length : Int) : Int) := odt_; first | exact h_ | (have e_ := (Kd.R_reads' HO_0.out).1; omega) | simpa using h_); obtain rfl := k49_openM hM10; have HP10 := Kd.R_seg HX10.out (x5_1 : Int) (odt_) (by have h_ : (x5_1 : Int) < ((x0_1.length : Int) : Int) := odt_; first | exact h_ | (have e_ := (Kd.R_reads' HO_0.out).1; omega) | simpa using h_) (seg := [.int .i64 (wrap64 (x1_1 + 1))]) (j := 1) hcl10 hcc10 (show 2 ≤ 2 from by decide) (x' := (⟨(rd_T49 y370 x5_1).f0, wrap64 (x1_1 + 1)⟩ : S49)) (k49_mkM _ _ _ (⟨(rd_T49 y370 x5_1).f0, wrap64 (x1_1 + 1)⟩ : S49) ) (fun _ hk => hk); have hx10_1 := hcc10 1 _ rfl; (try simp only [show (k49).sz = 2 from rfl, Nat.mul_one, Nat.add_zero] at hx10_1); have hf10_1 := hfr10 1; (try simp only [show (k49).sz = 2 from rfl, Nat.mul_one, Nat.add_zero] at hf10_1); clear hcl10 hcc10 hfr10 hM10) | ((with_reducible refine gate_store (t := 3) (p := 23) rfl ?_); refine store_event (t := 3) (p := 23) (v := ?vo_w11) (w1 := (w9.setCell ⟨go5, (x5_1 : Int).toNat * 2 + 1, none⟩ (.int .i64 (wrap64 (x1_1 + 1))))) ?hg ?ho ?hn ?hr ?_; (case ho => rfl); (case hg => rfl); (case hn => rfl); (case hr => first | (go_simp; done) | (go_simp; rfl)); intro w11 hw; have hg : w9.grownBy w11 (some go5) := (by rw [hw]; exact HP10.2); have hp_ : Kd.R k49 49 w11 w0.heap.size (fun k_ => (P0_ k_ ∨ w.heap.size ≤ k_)) (.slice (some ⟨go5, 0, none⟩) x0_1.length co7) y371 := (by rw [hw, Ny371.out]; exact HP10.1); clear HP10; replace HB := Aside0.mk ((by rw [hw]; exact below_set (HB.out) GB5.out : Below w0.heap.size w0 w11)); replace HK := Aside0.mk (Kept.of_grown (S := (fun k_ => P0_ k_)) hg (by repeat (first | (with_reducible first | exact HK.out | apply Kept.alloc | apply Kept.drewN | apply Kept.drew) | exact HK.out)) (fun k_ e_ => (HO_0.out.1 k_ e_))); replace HO_0 := Aside0.mk (hp_); clear hg hw hp_))
    go_roundg k1
    case measure => have := HK1.out; omega
    case rel => exact ⟨(y371), (wrap64 ((wrap64 (x1_1 + 1)) + 1)), (wrap64 (x5_1 + 1)), rsd_, rsd_, H', ⟨by have := HK1.out; omega⟩, ⟨ra_ HO_0.out⟩, ⟨by repeat (first | (with_reducible first | exact HK.out | apply Kept.alloc | apply Kept.drewN | apply Kept.drew) | exact HK.out)⟩, ⟨blw_⟩⟩
   ·rw [if_neg c3] at H
    have c3b0 : decide (x5_1 < (x0_1.length : Int)) = false := decide_eq_false c3
    clear c3
    simp only [Option.some.injEq, Prod.mk.injEq] at H
    obtain ⟨rfl, rfl⟩ := H
    obtain ⟨Ao12, co12, eo12⟩ := Kd.R_slice HO_0.out
    subst eo12
    go_wp2
    go_ret
    exact ⟨by first | rfl | (simp [errW_none, errW_some] <;> rfl) | (simp [*, errW_none, errW_some] <;> rfl), by (with_reducible repeat (first | apply Kd.R_alloc | apply Kd.R_drewN | apply Kd.R_drew)); exact HO_0.out, blw_, by repeat (first | (with_reducible first | exact HK.out | apply Kept.alloc | apply Kept.drewN | apply Kept.drew) | exact HK.out)⟩

/-! ### laws_heldDiagonalS: function 17 -/
def laws_heldDiagonalS.l0 : Nat → List (S49) → Int → Int → Option (Int)
 | 0, _, _, _ => none
 | k + 1, x0, x1, x5 => if x5 < (x0.length : Int) then (if 0 ≤ x5 then (if ((rd_T49 x0 x5).f0) = x1 then (if ((rd_T49 x0 x5).f1) = (wrap64 (x1 + 1)) then (laws_heldDiagonalS.l0 k x0 (wrap64 ((wrap64 (x1 + 1)) + 1)) (wrap64 (x5 + 1))) else (some (-1))) else (some (-1))) else (none)) else (some x1)
def laws_heldDiagonalS.f (k : Nat) (l0 : List (S49)) (a1 : Int) : Option (Int) := laws_heldDiagonalS.l0 k l0 a1 0
theorem laws_heldDiagonalS.mono_l : ∀ k, (∀ y0 y1 y2, LeO (laws_heldDiagonalS.l0 k y0 y1 y2) (laws_heldDiagonalS.l0 (k + 1) y0 y1 y2))
 | 0 => fun _ _ _ r h => by simp [laws_heldDiagonalS.l0] at h
 | k + 1 => by
  have ih0 := laws_heldDiagonalS.mono_l k
  ·intro y0 y1 y2
   unfold laws_heldDiagonalS.l0
   repeat' first
   | (with_reducible exact ih0 _ _ _)
   | (with_reducible exact LeO.refl _)
   | (with_reducible exact LeO.none _)
   | (with_reducible refine LeO.ite ?_ ?_)
   | (with_reducible refine LeO.bind ?_ (fun _ => ?_))
   | exact ih0 _ _ _
   | exact LeO.none _
   | refine LeO.ite ?_ ?_
   | refine LeO.bind ?_ (fun _ => ?_)
theorem laws_heldDiagonalS.mono : ∀ a0 a1 k, LeO (laws_heldDiagonalS.f k a0 a1) (laws_heldDiagonalS.f (k + 1) a0 a1) := by
 intro a0 a1 k
 have ih0 := laws_heldDiagonalS.mono_l k
 unfold laws_heldDiagonalS.f
 repeat' first
   | (with_reducible exact ih0 _ _ _)
   | (with_reducible exact LeO.refl _)
   | (with_reducible exact LeO.none _)
   | (with_reducible refine LeO.ite ?_ ?_)
   | (with_reducible refine LeO.bind ?_ (fun _ => ?_))
   | exact ih0 _ _ _
   | exact LeO.none _
   | refine LeO.ite ?_ ?_
   | refine LeO.bind ?_ (fun _ => ?_)
set_option maxHeartbeats 8000000 in
set_option maxRecDepth 100000 in
theorem laws_heldDiagonalS.calls (k : Nat) (A0 : Option Addr) (c0 : Nat) (l0 : List (S49)) (a1 : Int) (r : Int) (w : World) (hr0 : Kd.C k49 w A0 l0.length l0) (hc0 : l0.length ≤ c0) (h : laws_heldDiagonalS.f k l0 a1 = some r) :
  Calls Tryd.prog 17 #[.slice A0 l0.length c0, .int .i64 a1] w fun e w' => e = .returned (.int .i64 r) ∧ Drawn0 w w' := by
 have HR0 := Aside0.mk hr0
 have HC0 := Aside0.mk hc0
 clear hr0 hc0
 have H : (laws_heldDiagonalS.l0 k l0 a1 0) = some r := h
 clear h
 have H' := Aside0.mk H
 clear H
 go_enter Tryd.func17, Tryd.ntmps17
 go_wp2
 go_loopg [1, 5] k (fun kq v1 v5 w' => ∃ (x1_1 : Int) (x5_1 : Int), v1 = .int .i64 x1_1 ∧ v5 = .int .i64 x5_1 ∧ Aside0 (laws_heldDiagonalS.l0 kq l0 x1_1 x5_1 = some r) ∧ Aside0 (kq ≤ k) ∧ Drawn0 w w')
 case atStart => exact ⟨(a1), (0), rsd_, rsd_, H', ⟨Nat.le_refl _⟩, by repeat (first | exact Drawn0.refl _ | apply Drawn0.step)⟩
 case round =>
  clear H'
  try clear c1
  try clear p2
  obtain ⟨x1_1, x5_1, rfl, rfl, HA, HK1, ⟨m1, rfl⟩⟩ := hrel
  cases gk with
  | zero => exact absurd HA.out (by simp [laws_heldDiagonalS.l0])
  | succ k1 =>
   have H := HA.out
   clear HA
   simp only [laws_heldDiagonalS.l0] at H
   by_cases c3 : x5_1 < (l0.length : Int)
   ·rw [if_pos c3] at H
    have c3b0 : decide (x5_1 < (l0.length : Int)) = true := decide_eq_true c3
    clear c3
    by_cases c4 : 0 ≤ x5_1
    case neg=>rw [if_neg c4] at H;exact absurd H (by simp)
    rw [if_pos c4] at H
    have c4b0 : decide (0 ≤ x5_1) = true := decide_eq_true c4
    clear c4
    by_cases c5 : ((rd_T49 l0 x5_1).f0) = x1_1
    ·rw [if_pos c5] at H
     have c5b0 : (((rd_T49 l0 x5_1).f0) == x1_1) = true := beq_iff_eq.mpr c5
     have c5b1 : (((rd_T49 l0 x5_1).f0) != x1_1) = false := bne_eq_false_iff_eq.mpr c5
     clear c5
     by_cases c6 : ((rd_T49 l0 x5_1).f1) = (wrap64 (x1_1 + 1))
     ·rw [if_pos c6] at H
      have c6b0 : (((rd_T49 l0 x5_1).f1) == (wrap64 (x1_1 + 1))) = true := beq_iff_eq.mpr c6
      have c6b1 : (((rd_T49 l0 x5_1).f1) != (wrap64 (x1_1 + 1))) = false := bne_eq_false_iff_eq.mpr c6
      clear c6
      have H' := Aside0.mk H
      clear H
      have p372 : 0 ≤ (x5_1 : Int) := odt_
      have q372 : x5_1 < (l0.length : Int) := odt_
      obtain ⟨ad372, e372, hx372_0, hx372_1⟩ := at_T49 HR0.out x5_1 p372 q372
      cases e372
      replace p372 := eq_true p372
      replace q372 := eq_true q372
      have p373 : 0 ≤ (x5_1 : Int) := odt_
      have q373 : x5_1 < (l0.length : Int) := odt_
      obtain ⟨ad373, e373, hx373_0, hx373_1⟩ := at_T49 HR0.out x5_1 p373 q373
      obtain rfl : ad372 = ad373 := (by injection e373)
      replace p373 := eq_true p373
      replace q373 := eq_true q373
      go_wp2
      go_roundg k1
      case measure => have := HK1.out; omega
      case rel => exact ⟨(wrap64 ((wrap64 (x1_1 + 1)) + 1)), (wrap64 (x5_1 + 1)), rsd_, rsd_, H', ⟨by have := HK1.out; omega⟩, by repeat (first | exact Drawn0.refl _ | apply Drawn0.step)⟩
     ·rw [if_neg c6] at H
      have c6b0 : (((rd_T49 l0 x5_1).f1) == (wrap64 (x1_1 + 1))) = false := beq_eq_false_iff_ne.mpr c6
      have c6b1 : (((rd_T49 l0 x5_1).f1) != (wrap64 (x1_1 + 1))) = true := bne_iff_ne.mpr c6
      obtain rfl := Option.some.inj H
      have p372 : 0 ≤ (x5_1 : Int) := odt_
      have q372 : x5_1 < (l0.length : Int) := odt_
      obtain ⟨ad372, e372, hx372_0, hx372_1⟩ := at_T49 HR0.out x5_1 p372 q372
      cases e372
      replace p372 := eq_true p372
      replace q372 := eq_true q372
      have p373 : 0 ≤ (x5_1 : Int) := odt_
      have q373 : x5_1 < (l0.length : Int) := odt_
      obtain ⟨ad373, e373, hx373_0, hx373_1⟩ := at_T49 HR0.out x5_1 p373 q373
      obtain rfl : ad372 = ad373 := (by injection e373)
      replace p373 := eq_true p373
      replace q373 := eq_true q373
      go_wp2
      go_ret
      exact dr_
    ·rw [if_neg c5] at H
     have c5b0 : (((rd_T49 l0 x5_1).f0) == x1_1) = false := beq_eq_false_iff_ne.mpr c5
     have c5b1 : (((rd_T49 l0 x5_1).f0) != x1_1) = true := bne_iff_ne.mpr c5
     obtain rfl := Option.some.inj H
     have p372 : 0 ≤ (x5_1 : Int) := odt_
     have q372 : x5_1 < (l0.length : Int) := odt_
     obtain ⟨ad372, e372, hx372_0, hx372_1⟩ := at_T49 HR0.out x5_1 p372 q372
     cases e372
     replace p372 := eq_true p372
     replace q372 := eq_true q372
     go_wp2
     go_ret
     exact dr_
   ·rw [if_neg c3] at H
    have c3b0 : decide (x5_1 < (l0.length : Int)) = false := decide_eq_false c3
    clear c3
    obtain rfl := Option.some.inj H
    go_wp2
    go_ret
    exact dr_

/-! ### laws_FnExactFirstFlips: function 5 -/
mutual
def laws_FnExactFirstFlips.j0 : Nat → Int → List (S51) → List (S51) → List (S49) → Bool → List (S49) → List (S49) → List (S49) → Bool → Bool → Option (Bool)
 | 0, _, _, _, _, _, _, _, _, _, _ => none
 | k + 1, x0, x1, x2, x8, x9, x10, x11, x12, x13, x57 => if x57 = true then (some false) else ((laws_toDiagonalS.f k x1).bind fun t397 => ((laws_eqDiagonalS.f k x10 t397).bind fun t400 => (if t400 = true then ((laws_toDiagonalS.f k x2).bind fun t401 => ((laws_eqDiagonalS.f k x11 t401).bind fun t404 => (if t404 = true then ((laws_markDiagonalS.f k x10 1).bind fun bt405 => ((laws_markDiagonalS.f k x11 bt405.1).bind fun bt407 => (if bt407.1 < 0 then (laws_FnExactFirstFlips.j1 k x0 x1 x2 x8 x9 x12 true) else ((laws_eqDiagonalS.f k x12 x8).bind fun t409 => (if t409 = true then (laws_FnExactFirstFlips.j1 k x0 x1 x2 x8 x9 x12 (x13 != x9)) else (laws_FnExactFirstFlips.j1 k x0 x1 x2 x8 x9 x12 true)))))) else (some false)))) else (some false))))
def laws_FnExactFirstFlips.j1 : Nat → Int → List (S51) → List (S51) → List (S49) → Bool → List (S49) → Bool → Option (Bool)
 | 0, _, _, _, _, _, _, _ => none
 | k + 1, x0, x1, x2, x8, x9, x12, x86 => if x86 = true then (some false) else ((laws_markDiagonalS.f k x12 1).bind fun bt410 => ((laws_heldDiagonalS.f k bt410.2 1).bind fun t412 => (if t412 < 0 then (some false) else (if t412 = bt410.1 then ((laws_toDiagonalS.f k x1).bind fun t413 => ((laws_toDiagonalS.f k x2).bind fun t416 => ((impl_FirstFlips.f k x0 t413 t416).bind fun bt419 => ((laws_eqDiagonalS.f k bt419.1 x8).bind fun t423 => (if t423 = true then (laws_FnExactFirstFlips.j2 k bt410.2 bt410.1 (bt419.2 != x9)) else (laws_FnExactFirstFlips.j2 k bt410.2 bt410.1 true)))))) else (some false)))))
def laws_FnExactFirstFlips.j2 : Nat → List (S49) → Int → Bool → Option (Bool)
 | 0, _, _, _ => none
 | k + 1, x12, x15, x115 => if x115 = true then (some false) else ((laws_heldDiagonalS.f k x12 1).bind fun t424 => (if t424 < 0 then (some false) else (if t424 = x15 then (some true) else (some false))))
end
def laws_FnExactFirstFlips.f (k : Nat) (a0 : Int) (l1 : List (S51)) (l2 : List (S51)) : Option (Bool) := (laws_szDiagonalS.f l1 1048576).bind fun t374 => (if t374 < 0 then (some true) else ((laws_szDiagonalS.f l2 t374).bind fun t375 => (if t375 < 0 then (some true) else ((laws_toDiagonalS.f k l1).bind fun t376 => ((laws_toDiagonalS.f k l2).bind fun t379 => ((spec_FirstFlips.f k a0 t376 t379).bind fun bt382 => ((laws_toDiagonalS.f k l1).bind fun t386 => ((laws_toDiagonalS.f k l2).bind fun t389 => ((impl_FirstFlips.f k a0 t386 t389).bind fun bt392 => ((laws_eqDiagonalS.f k bt392.1 bt382.1).bind fun t396 => (if t396 = true then (laws_FnExactFirstFlips.j0 k a0 l1 l2 bt382.1 bt382.2 t386 t389 bt392.1 bt392.2 (bt392.2 != bt382.2)) else (laws_FnExactFirstFlips.j0 k a0 l1 l2 bt382.1 bt382.2 t386 t389 bt392.1 bt392.2 true))))))))))))
theorem laws_FnExactFirstFlips.mono_l : ∀ k, (∀ y0 y1 y2 y3 y4 y5 y6 y7 y8 y9, LeO (laws_FnExactFirstFlips.j0 k y0 y1 y2 y3 y4 y5 y6 y7 y8 y9) (laws_FnExactFirstFlips.j0 (k + 1) y0 y1 y2 y3 y4 y5 y6 y7 y8 y9)) ∧ (∀ y0 y1 y2 y3 y4 y5 y6, LeO (laws_FnExactFirstFlips.j1 k y0 y1 y2 y3 y4 y5 y6) (laws_FnExactFirstFlips.j1 (k + 1) y0 y1 y2 y3 y4 y5 y6)) ∧ (∀ y0 y1 y2, LeO (laws_FnExactFirstFlips.j2 k y0 y1 y2) (laws_FnExactFirstFlips.j2 (k + 1) y0 y1 y2))
 | 0 => ⟨fun _ _ _ _ _ _ _ _ _ _ r h => by simp [laws_FnExactFirstFlips.j0] at h, fun _ _ _ _ _ _ _ r h => by simp [laws_FnExactFirstFlips.j1] at h, fun _ _ _ r h => by simp [laws_FnExactFirstFlips.j2] at h⟩
 | k + 1 => by
  obtain ⟨ih0, ih1, ih2⟩ := laws_FnExactFirstFlips.mono_l k
  refine ⟨?_, ?_, ?_⟩
  ·intro y0 y1 y2 y3 y4 y5 y6 y7 y8 y9
   unfold laws_FnExactFirstFlips.j0
   repeat' first
   | (with_reducible exact ih0 _ _ _ _ _ _ _ _ _ _)
   | (with_reducible exact ih1 _ _ _ _ _ _ _)
   | (with_reducible exact ih2 _ _ _)
   | (with_reducible exact impl_FirstFlips.mono _ _ _ _)
   | (with_reducible exact laws_eqDiagonalS.mono _ _ _)
   | (with_reducible exact laws_heldDiagonalS.mono _ _ _)
   | (with_reducible exact laws_markDiagonalS.mono _ _ _)
   | (with_reducible exact laws_toDiagonalS.mono _ _)
   | (with_reducible exact spec_FirstFlips.mono _ _ _ _)
   | (with_reducible exact LeO.refl _)
   | (with_reducible exact LeO.none _)
   | (with_reducible refine LeO.ite ?_ ?_)
   | (with_reducible refine LeO.bind ?_ (fun _ => ?_))
   | exact ih0 _ _ _ _ _ _ _ _ _ _
   | exact ih1 _ _ _ _ _ _ _
   | exact ih2 _ _ _
   | exact impl_FirstFlips.mono _ _ _ _
   | exact laws_eqDiagonalS.mono _ _ _
   | exact laws_heldDiagonalS.mono _ _ _
   | exact laws_markDiagonalS.mono _ _ _
   | exact laws_toDiagonalS.mono _ _
   | exact spec_FirstFlips.mono _ _ _ _
   | exact LeO.none _
   | refine LeO.ite ?_ ?_
   | refine LeO.bind ?_ (fun _ => ?_)
  ·intro y0 y1 y2 y3 y4 y5 y6
   unfold laws_FnExactFirstFlips.j1
   repeat' first
   | (with_reducible exact ih0 _ _ _ _ _ _ _ _ _ _)
   | (with_reducible exact ih1 _ _ _ _ _ _ _)
   | (with_reducible exact ih2 _ _ _)
   | (with_reducible exact impl_FirstFlips.mono _ _ _ _)
   | (with_reducible exact laws_eqDiagonalS.mono _ _ _)
   | (with_reducible exact laws_heldDiagonalS.mono _ _ _)
   | (with_reducible exact laws_markDiagonalS.mono _ _ _)
   | (with_reducible exact laws_toDiagonalS.mono _ _)
   | (with_reducible exact spec_FirstFlips.mono _ _ _ _)
   | (with_reducible exact LeO.refl _)
   | (with_reducible exact LeO.none _)
   | (with_reducible refine LeO.ite ?_ ?_)
   | (with_reducible refine LeO.bind ?_ (fun _ => ?_))
   | exact ih0 _ _ _ _ _ _ _ _ _ _
   | exact ih1 _ _ _ _ _ _ _
   | exact ih2 _ _ _
   | exact impl_FirstFlips.mono _ _ _ _
   | exact laws_eqDiagonalS.mono _ _ _
   | exact laws_heldDiagonalS.mono _ _ _
   | exact laws_markDiagonalS.mono _ _ _
   | exact laws_toDiagonalS.mono _ _
   | exact spec_FirstFlips.mono _ _ _ _
   | exact LeO.none _
   | refine LeO.ite ?_ ?_
   | refine LeO.bind ?_ (fun _ => ?_)
  ·intro y0 y1 y2
   unfold laws_FnExactFirstFlips.j2
   repeat' first
   | (with_reducible exact ih0 _ _ _ _ _ _ _ _ _ _)
   | (with_reducible exact ih1 _ _ _ _ _ _ _)
   | (with_reducible exact ih2 _ _ _)
   | (with_reducible exact impl_FirstFlips.mono _ _ _ _)
   | (with_reducible exact laws_eqDiagonalS.mono _ _ _)
   | (with_reducible exact laws_heldDiagonalS.mono _ _ _)
   | (with_reducible exact laws_markDiagonalS.mono _ _ _)
   | (with_reducible exact laws_toDiagonalS.mono _ _)
   | (with_reducible exact spec_FirstFlips.mono _ _ _ _)
   | (with_reducible exact LeO.refl _)
   | (with_reducible exact LeO.none _)
   | (with_reducible refine LeO.ite ?_ ?_)
   | (with_reducible refine LeO.bind ?_ (fun _ => ?_))
   | exact ih0 _ _ _ _ _ _ _ _ _ _
   | exact ih1 _ _ _ _ _ _ _
   | exact ih2 _ _ _
   | exact impl_FirstFlips.mono _ _ _ _
   | exact laws_eqDiagonalS.mono _ _ _
   | exact laws_heldDiagonalS.mono _ _ _
   | exact laws_markDiagonalS.mono _ _ _
   | exact laws_toDiagonalS.mono _ _
   | exact spec_FirstFlips.mono _ _ _ _
   | exact LeO.none _
   | refine LeO.ite ?_ ?_
   | refine LeO.bind ?_ (fun _ => ?_)
theorem laws_FnExactFirstFlips.mono : ∀ a0 a1 a2 k, LeO (laws_FnExactFirstFlips.f k a0 a1 a2) (laws_FnExactFirstFlips.f (k + 1) a0 a1 a2) := by
 intro a0 a1 a2 k
 obtain ⟨ih0, ih1, ih2⟩ := laws_FnExactFirstFlips.mono_l k
 unfold laws_FnExactFirstFlips.f
 repeat' first
   | (with_reducible exact ih0 _ _ _ _ _ _ _ _ _ _)
   | (with_reducible exact ih1 _ _ _ _ _ _ _)
   | (with_reducible exact ih2 _ _ _)
   | (with_reducible exact impl_FirstFlips.mono _ _ _ _)
   | (with_reducible exact laws_eqDiagonalS.mono _ _ _)
   | (with_reducible exact laws_heldDiagonalS.mono _ _ _)
   | (with_reducible exact laws_markDiagonalS.mono _ _ _)
   | (with_reducible exact laws_toDiagonalS.mono _ _)
   | (with_reducible exact spec_FirstFlips.mono _ _ _ _)
   | (with_reducible exact LeO.refl _)
   | (with_reducible exact LeO.none _)
   | (with_reducible refine LeO.ite ?_ ?_)
   | (with_reducible refine LeO.bind ?_ (fun _ => ?_))
   | exact ih0 _ _ _ _ _ _ _ _ _ _
   | exact ih1 _ _ _ _ _ _ _
   | exact ih2 _ _ _
   | exact impl_FirstFlips.mono _ _ _ _
   | exact laws_eqDiagonalS.mono _ _ _
   | exact laws_heldDiagonalS.mono _ _ _
   | exact laws_markDiagonalS.mono _ _ _
   | exact laws_toDiagonalS.mono _ _
   | exact spec_FirstFlips.mono _ _ _ _
   | exact LeO.none _
   | refine LeO.ite ?_ ?_
   | refine LeO.bind ?_ (fun _ => ?_)
set_option maxHeartbeats 8000000 in
set_option maxRecDepth 100000 in
theorem laws_FnExactFirstFlips.calls (k : Nat) (a0 : Int) (A1 : Option Addr) (c1 : Nat) (l1 : List (S51)) (A2 : Option Addr) (c2 : Nat) (l2 : List (S51)) (r : Bool) (w : World) (hr1 : Kd.C k51 w A1 l1.length l1) (hc1 : l1.length ≤ c1) (hr2 : Kd.C k51 w A2 l2.length l2) (hc2 : l2.length ≤ c2) (h : laws_FnExactFirstFlips.f k a0 l1 l2 = some r) (htab : TabOk w) (htrue : Aside0 (r = true) := by exact ⟨rfl⟩) :
  Calls Tryd.prog 5 #[.int .i64 a0, .slice A1 l1.length c1, .slice A2 l2.length c2] w fun e w' => e = .returned (.bool r) ∧ Below w.heap.size w w' := by
 have HR1 := Aside0.mk hr1
 have HC1 := Aside0.mk hc1
 clear hr1 hc1
 have HR2 := Aside0.mk hr2
 have HC2 := Aside0.mk hc2
 clear hr2 hc2
 have HB := Aside0.mk (Below.refl w.heap.size w)
 have HTAB := Aside0.mk htab
 clear htab
 have H : ((laws_szDiagonalS.f l1 1048576).bind fun t374 => (if t374 < 0 then (some true) else ((laws_szDiagonalS.f l2 t374).bind fun t375 => (if t375 < 0 then (some true) else ((laws_toDiagonalS.f k l1).bind fun t376 => ((laws_toDiagonalS.f k l2).bind fun t379 => ((spec_FirstFlips.f k a0 t376 t379).bind fun bt382 => ((laws_toDiagonalS.f k l1).bind fun t386 => ((laws_toDiagonalS.f k l2).bind fun t389 => ((impl_FirstFlips.f k a0 t386 t389).bind fun bt392 => ((laws_eqDiagonalS.f k bt392.1 bt382.1).bind fun t396 => (if t396 = true then (laws_FnExactFirstFlips.j0 k a0 l1 l2 bt382.1 bt382.2 t386 t389 bt392.1 bt392.2 (bt392.2 != bt382.2)) else (laws_FnExactFirstFlips.j0 k a0 l1 l2 bt382.1 bt382.2 t386 t389 bt392.1 bt392.2 true))))))))))))) = some r := h
 clear h
 replace H := Option.bind_eq_some_iff.mp H
 obtain ⟨t374, A40, H⟩ := H
 replace H : (if t374 < 0 then (some true) else ((laws_szDiagonalS.f l2 t374).bind fun t375 => (if t375 < 0 then (some true) else ((laws_toDiagonalS.f k l1).bind fun t376 => ((laws_toDiagonalS.f k l2).bind fun t379 => ((spec_FirstFlips.f k a0 t376 t379).bind fun bt382 => ((laws_toDiagonalS.f k l1).bind fun t386 => ((laws_toDiagonalS.f k l2).bind fun t389 => ((impl_FirstFlips.f k a0 t386 t389).bind fun bt392 => ((laws_eqDiagonalS.f k bt392.1 bt382.1).bind fun t396 => (if t396 = true then (laws_FnExactFirstFlips.j0 k a0 l1 l2 bt382.1 bt382.2 t386 t389 bt392.1 bt392.2 (bt392.2 != bt382.2)) else (laws_FnExactFirstFlips.j0 k a0 l1 l2 bt382.1 bt382.2 t386 t389 bt392.1 bt392.2 true)))))))))))) = some r := H
 have A4 := Aside0.mk A40
 clear A40
 by_cases c5 : t374 < 0
 ·rw [if_pos c5] at H
  have c5b0 : decide (t374 < 0) = true := decide_eq_true c5
  clear c5
  obtain rfl := Option.some.inj H
  go_enter Tryd.func5, Tryd.ntmps5
  go_wp2_with (first | ((with_reducible refine gate_callee (f := 9) rfl ?_); refine goesL_ (some 21) rfl rfl Tryd.func9 (by kernel_rfl) rfl #[.slice A1 l1.length c1, .int .i64 1048576] rfl amp_ ?_; (with_reducible refine (laws_szDiagonalS.calls _ _ l1 1048576 t374 _ ?side1 ?side2 A4.out).mono ?_); (case side1 => exact cd_ HR1.out); (case side2 => exact HC1.out); rintro e w' ⟨rfl, ⟨nd, rfl⟩⟩; refine ⟨_, rfl, ?_⟩))
  go_ret
  exact er_
 ·rw [if_neg c5] at H
  have c5b0 : decide (t374 < 0) = false := decide_eq_false c5
  clear c5
  replace H := Option.bind_eq_some_iff.mp H
  obtain ⟨t375, A60, H⟩ := H
  replace H : (if t375 < 0 then (some true) else ((laws_toDiagonalS.f k l1).bind fun t376 => ((laws_toDiagonalS.f k l2).bind fun t379 => ((spec_FirstFlips.f k a0 t376 t379).bind fun bt382 => ((laws_toDiagonalS.f k l1).bind fun t386 => ((laws_toDiagonalS.f k l2).bind fun t389 => ((impl_FirstFlips.f k a0 t386 t389).bind fun bt392 => ((laws_eqDiagonalS.f k bt392.1 bt382.1).bind fun t396 => (if t396 = true then (laws_FnExactFirstFlips.j0 k a0 l1 l2 bt382.1 bt382.2 t386 t389 bt392.1 bt392.2 (bt392.2 != bt382.2)) else (laws_FnExactFirstFlips.j0 k a0 l1 l2 bt382.1 bt382.2 t386 t389 bt392.1 bt392.2 true)))))))))) = some r := H
  have A6 := Aside0.mk A60
  clear A60
  by_cases c7 : t375 < 0
  ·rw [if_pos c7] at H
   have c7b0 : decide (t375 < 0) = true := decide_eq_true c7
   clear c7
   obtain rfl := Option.some.inj H
   go_enter Tryd.func5, Tryd.ntmps5
   go_wp2_with (first | ((with_reducible refine gate_callee (f := 9) rfl ?_); refine goesL_ (some 21) rfl rfl Tryd.func9 (by kernel_rfl) rfl #[.slice A1 l1.length c1, .int .i64 1048576] rfl amp_ ?_; (with_reducible refine (laws_szDiagonalS.calls _ _ l1 1048576 t374 _ ?side1 ?side2 A4.out).mono ?_); (case side1 => exact cd_ HR1.out); (case side2 => exact HC1.out); rintro e w' ⟨rfl, ⟨nd, rfl⟩⟩; refine ⟨_, rfl, ?_⟩) | ((with_reducible refine gate_callee (f := 9) rfl ?_); refine goesL_ (some 26) rfl rfl Tryd.func9 (by kernel_rfl) rfl #[.slice A2 l2.length c2, .int .i64 t374] rfl amp_ ?_; (with_reducible refine (laws_szDiagonalS.calls _ _ l2 t374 t375 _ ?side1 ?side2 A6.out).mono ?_); (case side1 => exact cd_ HR2.out); (case side2 => exact HC2.out); rintro e w' ⟨rfl, ⟨nd, rfl⟩⟩; refine ⟨_, rfl, ?_⟩))
   go_ret
   exact er_
  ·rw [if_neg c7] at H
   have c7b0 : decide (t375 < 0) = false := decide_eq_false c7
   clear c7
   replace H := Option.bind_eq_some_iff.mp H
   obtain ⟨t376, A80, H⟩ := H
   replace H : ((laws_toDiagonalS.f k l2).bind fun t379 => ((spec_FirstFlips.f k a0 t376 t379).bind fun bt382 => ((laws_toDiagonalS.f k l1).bind fun t386 => ((laws_toDiagonalS.f k l2).bind fun t389 => ((impl_FirstFlips.f k a0 t386 t389).bind fun bt392 => ((laws_eqDiagonalS.f k bt392.1 bt382.1).bind fun t396 => (if t396 = true then (laws_FnExactFirstFlips.j0 k a0 l1 l2 bt382.1 bt382.2 t386 t389 bt392.1 bt392.2 (bt392.2 != bt382.2)) else (laws_FnExactFirstFlips.j0 k a0 l1 l2 bt382.1 bt382.2 t386 t389 bt392.1 bt392.2 true)))))))) = some r := H
   have A8 := Aside0.mk A80
   clear A80
   replace H := Option.bind_eq_some_iff.mp H
   obtain ⟨t379, A90, H⟩ := H
   replace H : ((spec_FirstFlips.f k a0 t376 t379).bind fun bt382 => ((laws_toDiagonalS.f k l1).bind fun t386 => ((laws_toDiagonalS.f k l2).bind fun t389 => ((impl_FirstFlips.f k a0 t386 t389).bind fun bt392 => ((laws_eqDiagonalS.f k bt392.1 bt382.1).bind fun t396 => (if t396 = true then (laws_FnExactFirstFlips.j0 k a0 l1 l2 bt382.1 bt382.2 t386 t389 bt392.1 bt392.2 (bt392.2 != bt382.2)) else (laws_FnExactFirstFlips.j0 k a0 l1 l2 bt382.1 bt382.2 t386 t389 bt392.1 bt392.2 true))))))) = some r := H
   have A9 := Aside0.mk A90
   clear A90
   replace H := Option.bind_eq_some_iff.mp H
   obtain ⟨⟨t382, t385⟩, A100, H⟩ := H
   replace H : ((laws_toDiagonalS.f k l1).bind fun t386 => ((laws_toDiagonalS.f k l2).bind fun t389 => ((impl_FirstFlips.f k a0 t386 t389).bind fun bt392 => ((laws_eqDiagonalS.f k bt392.1 t382).bind fun t396 => (if t396 = true then (laws_FnExactFirstFlips.j0 k a0 l1 l2 t382 t385 t386 t389 bt392.1 bt392.2 (bt392.2 != t385)) else (laws_FnExactFirstFlips.j0 k a0 l1 l2 t382 t385 t386 t389 bt392.1 bt392.2 true)))))) = some r := H
   have A10 := Aside0.mk A100
   clear A100
   replace H := Option.bind_eq_some_iff.mp H
   obtain ⟨t386, A110, H⟩ := H
   replace H : ((laws_toDiagonalS.f k l2).bind fun t389 => ((impl_FirstFlips.f k a0 t386 t389).bind fun bt392 => ((laws_eqDiagonalS.f k bt392.1 t382).bind fun t396 => (if t396 = true then (laws_FnExactFirstFlips.j0 k a0 l1 l2 t382 t385 t386 t389 bt392.1 bt392.2 (bt392.2 != t385)) else (laws_FnExactFirstFlips.j0 k a0 l1 l2 t382 t385 t386 t389 bt392.1 bt392.2 true))))) = some r := H
   have A11 := Aside0.mk A110
   clear A110
   replace H := Option.bind_eq_some_iff.mp H
   obtain ⟨t389, A120, H⟩ := H
   replace H : ((impl_FirstFlips.f k a0 t386 t389).bind fun bt392 => ((laws_eqDiagonalS.f k bt392.1 t382).bind fun t396 => (if t396 = true then (laws_FnExactFirstFlips.j0 k a0 l1 l2 t382 t385 t386 t389 bt392.1 bt392.2 (bt392.2 != t385)) else (laws_FnExactFirstFlips.j0 k a0 l1 l2 t382 t385 t386 t389 bt392.1 bt392.2 true)))) = some r := H
   have A12 := Aside0.mk A120
   clear A120
   replace H := Option.bind_eq_some_iff.mp H
   obtain ⟨⟨t392, t393⟩, A130, H⟩ := H
   replace H : ((laws_eqDiagonalS.f k t392 t382).bind fun t396 => (if t396 = true then (laws_FnExactFirstFlips.j0 k a0 l1 l2 t382 t385 t386 t389 t392 t393 (t393 != t385)) else (laws_FnExactFirstFlips.j0 k a0 l1 l2 t382 t385 t386 t389 t392 t393 true))) = some r := H
   have A13 := Aside0.mk A130
   clear A130
   have HC14 := Aside0.mk H
   clear H
   go_enter Tryd.func5, Tryd.ntmps5
   go_upto_region 12 with (first | ((with_reducible refine gate_callee (f := 9) rfl ?_); refine goesL_ (some 21) rfl rfl Tryd.func9 (by kernel_rfl) rfl #[.slice A1 l1.length c1, .int .i64 1048576] rfl amp_ ?_; (with_reducible refine (laws_szDiagonalS.calls _ _ l1 1048576 t374 _ ?side1 ?side2 A4.out).mono ?_); (case side1 => exact cd_ HR1.out); (case side2 => exact HC1.out); rintro e w' ⟨rfl, ⟨nd, rfl⟩⟩; refine ⟨_, rfl, ?_⟩) | ((with_reducible refine gate_callee (f := 9) rfl ?_); refine goesL_ (some 26) rfl rfl Tryd.func9 (by kernel_rfl) rfl #[.slice A2 l2.length c2, .int .i64 t374] rfl amp_ ?_; (with_reducible refine (laws_szDiagonalS.calls _ _ l2 t374 t375 _ ?side1 ?side2 A6.out).mono ?_); (case side1 => exact cd_ HR2.out); (case side2 => exact HC2.out); rintro e w' ⟨rfl, ⟨nd, rfl⟩⟩; refine ⟨_, rfl, ?_⟩) | ((with_reducible refine gate_callee (f := 11) rfl ?_); refine goesL_ (some 32) rfl rfl Tryd.func11 (by kernel_rfl) rfl #[.slice A1 l1.length c1] rfl amp_ ?_; (with_reducible refine (laws_toDiagonalS.calls k _ _ l1 t376 _ ?side1 ?side2 A8.out).mono ?_); (case side1 => exact cd_ HR1.out); (case side2 => exact HC1.out); rintro e w15 ⟨v377, rfl, ho0, hb⟩; refine ⟨_, rfl, ?_⟩; have HO378 := Aside0.mk (Kd.R_lower ho0 (below_size blw_)); replace HB := Aside0.mk (below_step blw_ hb); (try clear hb); (try clear hb2); (try clear hk); (try clear hi); (try clear ho0)) | ((with_reducible refine gate_callee (f := 11) rfl ?_); refine goesL_ (some 34) rfl rfl Tryd.func11 (by kernel_rfl) rfl #[.slice A2 l2.length c2] rfl amp_ ?_; (with_reducible refine (laws_toDiagonalS.calls k _ _ l2 t379 _ ?side1 ?side2 A9.out).mono ?_); (case side1 => exact cd_ (Kd.C_below HR2.out HB.out)); (case side2 => exact HC2.out); rintro e w16 ⟨v380, rfl, ho0, hb⟩; refine ⟨_, rfl, ?_⟩; have HO381 := Aside0.mk (Kd.R_lower (Kd.R_new' ho0 (Kd.R_lt (ra_ HO378.out))) (below_size blw_)); replace HO378 := Aside0.mk (Kd.R_elder' (ra_ HO378.out) (Kd.R_base ho0) hb); replace HB := Aside0.mk (below_step blw_ hb); (try clear hb); (try clear hb2); (try clear hk); (try clear hi); (try clear ho0); obtain ⟨Ao17, co17, eo17⟩ := Kd.R_slice HO378.out; subst eo17; obtain ⟨Ao18, co18, eo18⟩ := Kd.R_slice HO381.out; subst eo18) | ((with_reducible refine gate_callee (f := 14) rfl ?_); refine goesL_ (some 35) rfl rfl Tryd.func14 (by kernel_rfl) rfl #[.int .i64 a0, .slice Ao17 t376.length co17, .slice Ao18 t379.length co18] rfl amp_ ?_; (with_reducible refine (spec_FirstFlips.calls k a0 (fun k_ => some k_ = (.slice Ao17 t376.length co17 : Value).ownBlock) _ _ t376 _ _ t379 t382 t385 _ ?side1 ?side2 ?side3 A10.out).mono ?_); (case side1 => exact Kd.R_V (Kd.R_tight rfl (HO378.out))); (case side2 => exact cd_ (Kd.R_reads' HO381.out).2.2); (case side3 => exact (Kd.R_reads' HO381.out).2.1); rintro e w19 ⟨v383, rfl, ho0, hb⟩; refine ⟨_, rfl, ?_⟩; have HO384 := Aside0.mk (Kd.R_lower (Kd.R_new' (Kd.R_new' (Kd.R_mono (ok' := fun k_ => True) ho0 (fun _ hk_ => trivial)) (Kd.R_lt (ra_ HO378.out))) (Kd.R_lt (ra_ HO381.out))) (below_size blw_)); replace HO378 := Aside0.mk (Kd.R_elder' (ra_ HO378.out) (Kd.R_base ho0) hb); replace HO381 := Aside0.mk (Kd.R_elder' (ra_ HO381.out) (Kd.R_base ho0) hb); replace HB := Aside0.mk (below_step blw_ hb); (try clear hb); (try clear hb2); (try clear hk); (try clear hi); (try clear ho0)) | ((with_reducible refine gate_callee (f := 11) rfl ?_); refine goesL_ (some 39) rfl rfl Tryd.func11 (by kernel_rfl) rfl #[.slice A1 l1.length c1] rfl amp_ ?_; (with_reducible refine (laws_toDiagonalS.calls k _ _ l1 t386 _ ?side1 ?side2 A11.out).mono ?_); (case side1 => exact cd_ (Kd.C_below HR1.out HB.out)); (case side2 => exact HC1.out); rintro e w20 ⟨v387, rfl, ho0, hb⟩; refine ⟨_, rfl, ?_⟩; have HO388 := Aside0.mk (Kd.R_lower (Kd.R_new' (Kd.R_new' (Kd.R_new' ho0 (Kd.R_lt (ra_ HO378.out))) (Kd.R_lt (ra_ HO381.out))) (Kd.R_lt (ra_ HO384.out))) (below_size blw_)); replace HO378 := Aside0.mk (Kd.R_elder' (ra_ HO378.out) (Kd.R_base ho0) hb); replace HO381 := Aside0.mk (Kd.R_elder' (ra_ HO381.out) (Kd.R_base ho0) hb); replace HO384 := Aside0.mk (Kd.R_elder' (ra_ HO384.out) (Kd.R_base ho0) hb); replace HB := Aside0.mk (below_step blw_ hb); (try clear hb); (try clear hb2); (try clear hk); (try clear hi); (try clear ho0)) | ((with_reducible refine gate_callee (f := 11) rfl ?_); refine goesL_ (some 41) rfl rfl Tryd.func11 (by kernel_rfl) rfl #[.slice A2 l2.length c2] rfl amp_ ?_; (with_reducible refine (laws_toDiagonalS.calls k _ _ l2 t389 _ ?side1 ?side2 A12.out).mono ?_); (case side1 => exact cd_ (Kd.C_below HR2.out HB.out)); (case side2 => exact HC2.out); rintro e w21 ⟨v390, rfl, ho0, hb⟩; refine ⟨_, rfl, ?_⟩; have HO391 := Aside0.mk (Kd.R_lower (Kd.R_new' (Kd.R_new' (Kd.R_new' (Kd.R_new' ho0 (Kd.R_lt (ra_ HO378.out))) (Kd.R_lt (ra_ HO381.out))) (Kd.R_lt (ra_ HO384.out))) (Kd.R_lt (ra_ HO388.out))) (below_size blw_)); replace HO378 := Aside0.mk (Kd.R_elder' (ra_ HO378.out) (Kd.R_base ho0) hb); replace HO381 := Aside0.mk (Kd.R_elder' (ra_ HO381.out) (Kd.R_base ho0) hb); replace HO384 := Aside0.mk (Kd.R_elder' (ra_ HO384.out) (Kd.R_base ho0) hb); replace HO388 := Aside0.mk (Kd.R_elder' (ra_ HO388.out) (Kd.R_base ho0) hb); replace HB := Aside0.mk (below_step blw_ hb); (try clear hb); (try clear hb2); (try clear hk); (try clear hi); (try clear ho0); obtain ⟨Ao22, co22, eo22⟩ := Kd.R_slice HO388.out; subst eo22; obtain ⟨Ao23, co23, eo23⟩ := Kd.R_slice HO391.out; subst eo23) | ((with_reducible refine gate_callee (f := 15) rfl ?_); refine goesL_ (some 46) rfl rfl Tryd.func15 (by kernel_rfl) rfl #[.int .i64 a0, .slice Ao22 t386.length co22, .slice Ao23 t389.length co23] rfl amp_ ?_; (with_reducible refine (impl_FirstFlips.calls k a0 _ _ t386 _ _ t389 t392 t393 _ ?side1 ?side2 ?side3 ?side4 A13.out (HTAB.out.below blw_)).mono ?_); (case side1 => exact cd_ (Kd.R_reads' HO388.out).2.2); (case side2 => exact (Kd.R_reads' HO388.out).2.1); (case side3 => exact cd_ (Kd.R_reads' HO391.out).2.2); (case side4 => exact (Kd.R_reads' HO391.out).2.1); rintro e w24 ⟨v394, rfl, ho0, hb⟩; refine ⟨_, rfl, ?_⟩; have HO395 := Aside0.mk (Kd.R_lower (Kd.R_new' (Kd.R_new' (Kd.R_new' (Kd.R_new' (Kd.R_new' ho0 (Kd.R_lt (ra_ HO378.out))) (Kd.R_lt (ra_ HO381.out))) (Kd.R_lt (ra_ HO384.out))) (Kd.R_lt (ra_ HO388.out))) (Kd.R_lt (ra_ HO391.out))) (below_size blw_)); replace HO378 := Aside0.mk (Kd.R_elder' (ra_ HO378.out) (Kd.R_base ho0) hb); replace HO381 := Aside0.mk (Kd.R_elder' (ra_ HO381.out) (Kd.R_base ho0) hb); replace HO384 := Aside0.mk (Kd.R_elder' (ra_ HO384.out) (Kd.R_base ho0) hb); replace HO388 := Aside0.mk (Kd.R_elder' (ra_ HO388.out) (Kd.R_base ho0) hb); replace HO391 := Aside0.mk (Kd.R_elder' (ra_ HO391.out) (Kd.R_base ho0) hb); replace HB := Aside0.mk (below_step blw_ hb); (try clear hb); (try clear hb2); (try clear hk); (try clear hi); (try clear ho0)))
   (try simp only [Act.put, List.setIfInBounds_toArray, List.set_cons_zero, List.set_cons_succ])
   go_cut [57] (fun v57 wc => ∃ (kq : Nat) (x57_13 : Bool), v57 = .bool x57_13 ∧ Aside0 (laws_FnExactFirstFlips.j0 kq a0 l1 l2 t382 t385 t386 t389 t392 t393 x57_13 = some r) ∧ Aside0 (kq ≤ k) ∧ Aside0 (Kd.R k49 49 wc w.heap.size (fun k_ => some k_ ≠ ((.slice Ao22 t386.length co22) : Value).ownBlock ∧ some k_ ≠ ((.slice Ao23 t389.length co23) : Value).ownBlock ∧ some k_ ≠ (v394 : Value).ownBlock) v383 t382) ∧ Aside0 (Kd.R k49 49 wc w.heap.size (fun k_ => some k_ ≠ (v383 : Value).ownBlock ∧ some k_ ≠ ((.slice Ao23 t389.length co23) : Value).ownBlock ∧ some k_ ≠ (v394 : Value).ownBlock) (.slice Ao22 t386.length co22) t386) ∧ Aside0 (Kd.R k49 49 wc w.heap.size (fun k_ => some k_ ≠ (v383 : Value).ownBlock ∧ some k_ ≠ ((.slice Ao22 t386.length co22) : Value).ownBlock ∧ some k_ ≠ (v394 : Value).ownBlock) (.slice Ao23 t389.length co23) t389) ∧ Aside0 (Kd.R k49 49 wc w.heap.size (fun k_ => some k_ ≠ (v383 : Value).ownBlock ∧ some k_ ≠ ((.slice Ao22 t386.length co22) : Value).ownBlock ∧ some k_ ≠ ((.slice Ao23 t389.length co23) : Value).ownBlock) v394 t392) ∧ Aside0 (Below w.heap.size w wc))
   case first =>
    have H := HC14.out
    clear HC14
    replace H := Option.bind_eq_some_iff.mp H
    obtain ⟨t396, A250, H⟩ := H
    replace H : (if t396 = true then (laws_FnExactFirstFlips.j0 k a0 l1 l2 t382 t385 t386 t389 t392 t393 (t393 != t385)) else (laws_FnExactFirstFlips.j0 k a0 l1 l2 t382 t385 t386 t389 t392 t393 true)) = some r := H
    have A25 := Aside0.mk A250
    clear A250
    by_cases c26 : t396 = true
    ·subst c26
     replace H : (laws_FnExactFirstFlips.j0 k a0 l1 l2 t382 t385 t386 t389 t392 t393 (t393 != t385)) = some r := by rw [if_pos rfl] at H; exact H
     have H' := Aside0.mk H
     clear H
     obtain ⟨Ao27, co27, eo27⟩ := Kd.R_slice HO395.out
     subst eo27
     obtain ⟨Ao28, co28, eo28⟩ := Kd.R_slice HO384.out
     subst eo28
     go_wp2_with (first | ((with_reducible refine gate_callee (f := 13) rfl ?_); refine goesL_ (some 51) rfl rfl Tryd.func13 (by kernel_rfl) rfl #[.slice Ao27 t392.length co27, .slice Ao28 t382.length co28] rfl amp_ ?_; (with_reducible refine (laws_eqDiagonalS.calls k _ _ t392 _ _ t382 true _ ?side1 ?side2 ?side3 ?side4 A25.out).mono ?_); (case side1 => exact cd_ (Kd.R_reads' HO395.out).2.2); (case side2 => exact (Kd.R_reads' HO395.out).2.1); (case side3 => exact cd_ (Kd.R_reads' HO384.out).2.2); (case side4 => exact (Kd.R_reads' HO384.out).2.1); rintro e w29 ⟨rfl, hb⟩; refine ⟨_, rfl, ?_⟩; replace HO378 := Aside0.mk (Kd.R_below (ra_ HO378.out) hb); replace HO381 := Aside0.mk (Kd.R_below (ra_ HO381.out) hb); replace HO384 := Aside0.mk (Kd.R_below (ra_ HO384.out) hb); replace HO388 := Aside0.mk (Kd.R_below (ra_ HO388.out) hb); replace HO391 := Aside0.mk (Kd.R_below (ra_ HO391.out) hb); replace HO395 := Aside0.mk (Kd.R_below (ra_ HO395.out) hb); replace HB := Aside0.mk (below_step blw_ hb); (try clear hb); (try clear hb2); (try clear hk); (try clear hi)))
     go_meet
     case rel => exact ⟨_, ((t393 != t385)), rsd_, H', ⟨by first | omega | exact Nat.le_refl _⟩, ⟨by (with_reducible repeat (first | apply Kd.R_alloc | apply Kd.R_drewN | apply Kd.R_drew)); exact Kd.R_mono HO384.out (fun _ hk => ⟨hk.1.1.2, ⟨hk.1.2, hk.2⟩⟩)⟩, ⟨by (with_reducible repeat (first | apply Kd.R_alloc | apply Kd.R_drewN | apply Kd.R_drew)); exact Kd.R_mono HO388.out (fun _ hk => ⟨hk.1.1.2, ⟨hk.1.2, hk.2⟩⟩)⟩, ⟨by (with_reducible repeat (first | apply Kd.R_alloc | apply Kd.R_drewN | apply Kd.R_drew)); exact Kd.R_mono HO391.out (fun _ hk => ⟨hk.1.1.2, ⟨hk.1.2, hk.2⟩⟩)⟩, ⟨by (with_reducible repeat (first | apply Kd.R_alloc | apply Kd.R_drewN | apply Kd.R_drew)); exact Kd.R_mono HO395.out (fun _ hk => ⟨hk.1.1.2, ⟨hk.1.2, hk.2⟩⟩)⟩, ⟨blw_⟩⟩
    ·replace c26 := Bool.eq_false_iff.mpr c26
     subst c26
     replace H : (laws_FnExactFirstFlips.j0 k a0 l1 l2 t382 t385 t386 t389 t392 t393 true) = some r := by rw [if_neg (show ¬ (false = true) by decide)] at H; exact H
     have H' := Aside0.mk H
     clear H
     obtain ⟨Ao30, co30, eo30⟩ := Kd.R_slice HO395.out
     subst eo30
     obtain ⟨Ao31, co31, eo31⟩ := Kd.R_slice HO384.out
     subst eo31
     go_wp2_with (first | ((with_reducible refine gate_callee (f := 13) rfl ?_); refine goesL_ (some 51) rfl rfl Tryd.func13 (by kernel_rfl) rfl #[.slice Ao30 t392.length co30, .slice Ao31 t382.length co31] rfl amp_ ?_; (with_reducible refine (laws_eqDiagonalS.calls k _ _ t392 _ _ t382 false _ ?side1 ?side2 ?side3 ?side4 A25.out).mono ?_); (case side1 => exact cd_ (Kd.R_reads' HO395.out).2.2); (case side2 => exact (Kd.R_reads' HO395.out).2.1); (case side3 => exact cd_ (Kd.R_reads' HO384.out).2.2); (case side4 => exact (Kd.R_reads' HO384.out).2.1); rintro e w32 ⟨rfl, hb⟩; refine ⟨_, rfl, ?_⟩; replace HO378 := Aside0.mk (Kd.R_below (ra_ HO378.out) hb); replace HO381 := Aside0.mk (Kd.R_below (ra_ HO381.out) hb); replace HO384 := Aside0.mk (Kd.R_below (ra_ HO384.out) hb); replace HO388 := Aside0.mk (Kd.R_below (ra_ HO388.out) hb); replace HO391 := Aside0.mk (Kd.R_below (ra_ HO391.out) hb); replace HO395 := Aside0.mk (Kd.R_below (ra_ HO395.out) hb); replace HB := Aside0.mk (below_step blw_ hb); (try clear hb); (try clear hb2); (try clear hk); (try clear hi)))
     go_meet
     case rel => exact ⟨_, (true), rsd_, H', ⟨by first | omega | exact Nat.le_refl _⟩, ⟨by (with_reducible repeat (first | apply Kd.R_alloc | apply Kd.R_drewN | apply Kd.R_drew)); exact Kd.R_mono HO384.out (fun _ hk => ⟨hk.1.1.2, ⟨hk.1.2, hk.2⟩⟩)⟩, ⟨by (with_reducible repeat (first | apply Kd.R_alloc | apply Kd.R_drewN | apply Kd.R_drew)); exact Kd.R_mono HO388.out (fun _ hk => ⟨hk.1.1.2, ⟨hk.1.2, hk.2⟩⟩)⟩, ⟨by (with_reducible repeat (first | apply Kd.R_alloc | apply Kd.R_drewN | apply Kd.R_drew)); exact Kd.R_mono HO391.out (fun _ hk => ⟨hk.1.1.2, ⟨hk.1.2, hk.2⟩⟩)⟩, ⟨by (with_reducible repeat (first | apply Kd.R_alloc | apply Kd.R_drewN | apply Kd.R_drew)); exact Kd.R_mono HO395.out (fun _ hk => ⟨hk.1.1.2, ⟨hk.1.2, hk.2⟩⟩)⟩, ⟨blw_⟩⟩
   case rest =>
    clear HC14
    try clear c1
    try clear c2
    try clear p2
    try clear c5
    try clear c5b0
    try clear c7
    try clear c7b0
    try clear c9
    try clear c11
    try clear c13
    try clear c14
    try clear c15
    try clear c26
    obtain ⟨kq, x57_13, rfl, HA, HJ13, HO_8, HO_10, HO_11, HO_12, HB⟩ := hcut
    cases kq with
    | zero => exact absurd HA.out (by simp [laws_FnExactFirstFlips.j0])
    | succ kj13 =>
     have H := HA.out
     clear HA
     simp only [laws_FnExactFirstFlips.j0] at H
     by_cases c33 : x57_13 = true
     ·subst c33
      replace H : (some false) = some r := by rw [if_pos rfl] at H; exact H
      exact absurd (H.trans (congrArg some htrue.out)) (by decide)
     ·replace c33 := Bool.eq_false_iff.mpr c33
      subst c33
      replace H : ((laws_toDiagonalS.f kj13 l1).bind fun t397 => ((laws_eqDiagonalS.f kj13 t386 t397).bind fun t400 => (if t400 = true then ((laws_toDiagonalS.f kj13 l2).bind fun t401 => ((laws_eqDiagonalS.f kj13 t389 t401).bind fun t404 => (if t404 = true then ((laws_markDiagonalS.f kj13 t386 1).bind fun bt405 => ((laws_markDiagonalS.f kj13 t389 bt405.1).bind fun bt407 => (if bt407.1 < 0 then (laws_FnExactFirstFlips.j1 kj13 a0 l1 l2 t382 t385 t392 true) else ((laws_eqDiagonalS.f kj13 t392 t382).bind fun t409 => (if t409 = true then (laws_FnExactFirstFlips.j1 kj13 a0 l1 l2 t382 t385 t392 (t393 != t385)) else (laws_FnExactFirstFlips.j1 kj13 a0 l1 l2 t382 t385 t392 true)))))) else (some false)))) else (some false)))) = some r := by rw [if_neg (show ¬ (false = true) by decide)] at H; exact H
      replace H := Option.bind_eq_some_iff.mp H
      obtain ⟨t397, A340, H⟩ := H
      replace H : ((laws_eqDiagonalS.f kj13 t386 t397).bind fun t400 => (if t400 = true then ((laws_toDiagonalS.f kj13 l2).bind fun t401 => ((laws_eqDiagonalS.f kj13 t389 t401).bind fun t404 => (if t404 = true then ((laws_markDiagonalS.f kj13 t386 1).bind fun bt405 => ((laws_markDiagonalS.f kj13 t389 bt405.1).bind fun bt407 => (if bt407.1 < 0 then (laws_FnExactFirstFlips.j1 kj13 a0 l1 l2 t382 t385 t392 true) else ((laws_eqDiagonalS.f kj13 t392 t382).bind fun t409 => (if t409 = true then (laws_FnExactFirstFlips.j1 kj13 a0 l1 l2 t382 t385 t392 (t393 != t385)) else (laws_FnExactFirstFlips.j1 kj13 a0 l1 l2 t382 t385 t392 true)))))) else (some false)))) else (some false))) = some r := H
      have A34 := Aside0.mk A340
      clear A340
      replace H := Option.bind_eq_some_iff.mp H
      obtain ⟨t400, A350, H⟩ := H
      replace H : (if t400 = true then ((laws_toDiagonalS.f kj13 l2).bind fun t401 => ((laws_eqDiagonalS.f kj13 t389 t401).bind fun t404 => (if t404 = true then ((laws_markDiagonalS.f kj13 t386 1).bind fun bt405 => ((laws_markDiagonalS.f kj13 t389 bt405.1).bind fun bt407 => (if bt407.1 < 0 then (laws_FnExactFirstFlips.j1 kj13 a0 l1 l2 t382 t385 t392 true) else ((laws_eqDiagonalS.f kj13 t392 t382).bind fun t409 => (if t409 = true then (laws_FnExactFirstFlips.j1 kj13 a0 l1 l2 t382 t385 t392 (t393 != t385)) else (laws_FnExactFirstFlips.j1 kj13 a0 l1 l2 t382 t385 t392 true)))))) else (some false)))) else (some false)) = some r := H
      have A35 := Aside0.mk A350
      clear A350
      by_cases c36 : t400 = true
      ·subst c36
       replace H : ((laws_toDiagonalS.f kj13 l2).bind fun t401 => ((laws_eqDiagonalS.f kj13 t389 t401).bind fun t404 => (if t404 = true then ((laws_markDiagonalS.f kj13 t386 1).bind fun bt405 => ((laws_markDiagonalS.f kj13 t389 bt405.1).bind fun bt407 => (if bt407.1 < 0 then (laws_FnExactFirstFlips.j1 kj13 a0 l1 l2 t382 t385 t392 true) else ((laws_eqDiagonalS.f kj13 t392 t382).bind fun t409 => (if t409 = true then (laws_FnExactFirstFlips.j1 kj13 a0 l1 l2 t382 t385 t392 (t393 != t385)) else (laws_FnExactFirstFlips.j1 kj13 a0 l1 l2 t382 t385 t392 true)))))) else (some false)))) = some r := by rw [if_pos rfl] at H; exact H
       replace H := Option.bind_eq_some_iff.mp H
       obtain ⟨t401, A370, H⟩ := H
       replace H : ((laws_eqDiagonalS.f kj13 t389 t401).bind fun t404 => (if t404 = true then ((laws_markDiagonalS.f kj13 t386 1).bind fun bt405 => ((laws_markDiagonalS.f kj13 t389 bt405.1).bind fun bt407 => (if bt407.1 < 0 then (laws_FnExactFirstFlips.j1 kj13 a0 l1 l2 t382 t385 t392 true) else ((laws_eqDiagonalS.f kj13 t392 t382).bind fun t409 => (if t409 = true then (laws_FnExactFirstFlips.j1 kj13 a0 l1 l2 t382 t385 t392 (t393 != t385)) else (laws_FnExactFirstFlips.j1 kj13 a0 l1 l2 t382 t385 t392 true)))))) else (some false))) = some r := H
       have A37 := Aside0.mk A370
       clear A370
       replace H := Option.bind_eq_some_iff.mp H
       obtain ⟨t404, A380, H⟩ := H
       replace H : (if t404 = true then ((laws_markDiagonalS.f kj13 t386 1).bind fun bt405 => ((laws_markDiagonalS.f kj13 t389 bt405.1).bind fun bt407 => (if bt407.1 < 0 then (laws_FnExactFirstFlips.j1 kj13 a0 l1 l2 t382 t385 t392 true) else ((laws_eqDiagonalS.f kj13 t392 t382).bind fun t409 => (if t409 = true then (laws_FnExactFirstFlips.j1 kj13 a0 l1 l2 t382 t385 t392 (t393 != t385)) else (laws_FnExactFirstFlips.j1 kj13 a0 l1 l2 t382 t385 t392 true)))))) else (some false)) = some r := H
       have A38 := Aside0.mk A380
       clear A380
       by_cases c39 : t404 = true
       ·subst c39
        replace H : ((laws_markDiagonalS.f kj13 t386 1).bind fun bt405 => ((laws_markDiagonalS.f kj13 t389 bt405.1).bind fun bt407 => (if bt407.1 < 0 then (laws_FnExactFirstFlips.j1 kj13 a0 l1 l2 t382 t385 t392 true) else ((laws_eqDiagonalS.f kj13 t392 t382).bind fun t409 => (if t409 = true then (laws_FnExactFirstFlips.j1 kj13 a0 l1 l2 t382 t385 t392 (t393 != t385)) else (laws_FnExactFirstFlips.j1 kj13 a0 l1 l2 t382 t385 t392 true)))))) = some r := by rw [if_pos rfl] at H; exact H
        replace H := Option.bind_eq_some_iff.mp H
        obtain ⟨⟨t405, t406⟩, A400, H⟩ := H
        replace H : ((laws_markDiagonalS.f kj13 t389 t405).bind fun bt407 => (if bt407.1 < 0 then (laws_FnExactFirstFlips.j1 kj13 a0 l1 l2 t382 t385 t392 true) else ((laws_eqDiagonalS.f kj13 t392 t382).bind fun t409 => (if t409 = true then (laws_FnExactFirstFlips.j1 kj13 a0 l1 l2 t382 t385 t392 (t393 != t385)) else (laws_FnExactFirstFlips.j1 kj13 a0 l1 l2 t382 t385 t392 true))))) = some r := H
        have A40 := Aside0.mk A400
        clear A400
        replace H := Option.bind_eq_some_iff.mp H
        obtain ⟨⟨t407, t408⟩, A410, H⟩ := H
        replace H : (if t407 < 0 then (laws_FnExactFirstFlips.j1 kj13 a0 l1 l2 t382 t385 t392 true) else ((laws_eqDiagonalS.f kj13 t392 t382).bind fun t409 => (if t409 = true then (laws_FnExactFirstFlips.j1 kj13 a0 l1 l2 t382 t385 t392 (t393 != t385)) else (laws_FnExactFirstFlips.j1 kj13 a0 l1 l2 t382 t385 t392 true)))) = some r := H
        have A41 := Aside0.mk A410
        clear A410
        have HC42 := Aside0.mk H
        clear H
        go_upto_region 21 with (first | ((with_reducible refine gate_callee (f := 11) rfl ?_); refine goesL_ (some 60) rfl rfl Tryd.func11 (by kernel_rfl) rfl #[.slice A1 l1.length c1] rfl amp_ ?_; (with_reducible refine (laws_toDiagonalS.calls kj13 _ _ l1 t397 _ ?side1 ?side2 A34.out).mono ?_); (case side1 => exact cd_ (Kd.C_below HR1.out HB.out)); (case side2 => exact HC1.out); rintro e w43 ⟨v398, rfl, ho0, hb⟩; refine ⟨_, rfl, ?_⟩; have HO399 := Aside0.mk (Kd.R_lower (Kd.R_new' (Kd.R_new' (Kd.R_new' (Kd.R_new' ho0 (Kd.R_lt (ra_ HO_8.out))) (Kd.R_lt (ra_ HO_10.out))) (Kd.R_lt (ra_ HO_11.out))) (Kd.R_lt (ra_ HO_12.out))) (below_size blw_)); replace HO_8 := Aside0.mk (Kd.R_elder' (ra_ HO_8.out) (Kd.R_base ho0) hb); replace HO_10 := Aside0.mk (Kd.R_elder' (ra_ HO_10.out) (Kd.R_base ho0) hb); replace HO_11 := Aside0.mk (Kd.R_elder' (ra_ HO_11.out) (Kd.R_base ho0) hb); replace HO_12 := Aside0.mk (Kd.R_elder' (ra_ HO_12.out) (Kd.R_base ho0) hb); replace HB := Aside0.mk (below_step blw_ hb); (try clear hb); (try clear hb2); (try clear hk); (try clear hi); (try clear ho0); obtain ⟨Ao44, co44, eo44⟩ := Kd.R_slice HO399.out; subst eo44) | ((with_reducible refine gate_callee (f := 13) rfl ?_); refine goesL_ (some 61) rfl rfl Tryd.func13 (by kernel_rfl) rfl #[.slice Ao22 t386.length co22, .slice Ao44 t397.length co44] rfl amp_ ?_; (with_reducible refine (laws_eqDiagonalS.calls kj13 _ _ t386 _ _ t397 true _ ?side1 ?side2 ?side3 ?side4 A35.out).mono ?_); (case side1 => exact cd_ (Kd.R_reads' HO_10.out).2.2); (case side2 => exact (Kd.R_reads' HO_10.out).2.1); (case side3 => exact cd_ (Kd.R_reads' HO399.out).2.2); (case side4 => exact (Kd.R_reads' HO399.out).2.1); rintro e w45 ⟨rfl, hb⟩; refine ⟨_, rfl, ?_⟩; replace HO_8 := Aside0.mk (Kd.R_below (ra_ HO_8.out) hb); replace HO_10 := Aside0.mk (Kd.R_below (ra_ HO_10.out) hb); replace HO_11 := Aside0.mk (Kd.R_below (ra_ HO_11.out) hb); replace HO_12 := Aside0.mk (Kd.R_below (ra_ HO_12.out) hb); replace HO399 := Aside0.mk (Kd.R_below (ra_ HO399.out) hb); replace HB := Aside0.mk (below_step blw_ hb); (try clear hb); (try clear hb2); (try clear hk); (try clear hi)) | ((with_reducible refine gate_callee (f := 11) rfl ?_); refine goesL_ (some 65) rfl rfl Tryd.func11 (by kernel_rfl) rfl #[.slice A2 l2.length c2] rfl amp_ ?_; (with_reducible refine (laws_toDiagonalS.calls kj13 _ _ l2 t401 _ ?side1 ?side2 A37.out).mono ?_); (case side1 => exact cd_ (Kd.C_below HR2.out HB.out)); (case side2 => exact HC2.out); rintro e w46 ⟨v402, rfl, ho0, hb⟩; refine ⟨_, rfl, ?_⟩; have HO403 := Aside0.mk (Kd.R_lower (Kd.R_new' (Kd.R_new' (Kd.R_new' (Kd.R_new' (Kd.R_new' ho0 (Kd.R_lt (ra_ HO_8.out))) (Kd.R_lt (ra_ HO_10.out))) (Kd.R_lt (ra_ HO_11.out))) (Kd.R_lt (ra_ HO_12.out))) (Kd.R_lt (ra_ HO399.out))) (below_size blw_)); replace HO_8 := Aside0.mk (Kd.R_elder' (ra_ HO_8.out) (Kd.R_base ho0) hb); replace HO_10 := Aside0.mk (Kd.R_elder' (ra_ HO_10.out) (Kd.R_base ho0) hb); replace HO_11 := Aside0.mk (Kd.R_elder' (ra_ HO_11.out) (Kd.R_base ho0) hb); replace HO_12 := Aside0.mk (Kd.R_elder' (ra_ HO_12.out) (Kd.R_base ho0) hb); replace HO399 := Aside0.mk (Kd.R_elder' (ra_ HO399.out) (Kd.R_base ho0) hb); replace HB := Aside0.mk (below_step blw_ hb); (try clear hb); (try clear hb2); (try clear hk); (try clear hi); (try clear ho0); obtain ⟨Ao47, co47, eo47⟩ := Kd.R_slice HO403.out; subst eo47) | ((with_reducible refine gate_callee (f := 13) rfl ?_); refine goesL_ (some 66) rfl rfl Tryd.func13 (by kernel_rfl) rfl #[.slice Ao23 t389.length co23, .slice Ao47 t401.length co47] rfl amp_ ?_; (with_reducible refine (laws_eqDiagonalS.calls kj13 _ _ t389 _ _ t401 true _ ?side1 ?side2 ?side3 ?side4 A38.out).mono ?_); (case side1 => exact cd_ (Kd.R_reads' HO_11.out).2.2); (case side2 => exact (Kd.R_reads' HO_11.out).2.1); (case side3 => exact cd_ (Kd.R_reads' HO403.out).2.2); (case side4 => exact (Kd.R_reads' HO403.out).2.1); rintro e w48 ⟨rfl, hb⟩; refine ⟨_, rfl, ?_⟩; replace HO_8 := Aside0.mk (Kd.R_below (ra_ HO_8.out) hb); replace HO_10 := Aside0.mk (Kd.R_below (ra_ HO_10.out) hb); replace HO_11 := Aside0.mk (Kd.R_below (ra_ HO_11.out) hb); replace HO_12 := Aside0.mk (Kd.R_below (ra_ HO_12.out) hb); replace HO399 := Aside0.mk (Kd.R_below (ra_ HO399.out) hb); replace HO403 := Aside0.mk (Kd.R_below (ra_ HO403.out) hb); replace HB := Aside0.mk (below_step blw_ hb); (try clear hb); (try clear hb2); (try clear hk); (try clear hi)) | ((with_reducible refine gate_callee (f := 16) rfl ?_); refine goesL_ (some 70) rfl rfl Tryd.func16 (by kernel_rfl) rfl #[.slice Ao22 t386.length co22, .int .i64 1] rfl amp_ ?_; (with_reducible refine (laws_markDiagonalS.calls kj13 (fun k_ => some k_ = (.slice Ao22 t386.length co22 : Value).ownBlock) (.slice Ao22 t386.length co22) t386 1 t405 t406 w _ ?side1 ?side2 A40.out).mono ?_); (case side1 => repeat (first | (with_reducible first | exact HB.out | apply below_alloc | apply pw_below_drewN | apply below_drew1) | exact HB.out)); (case side2 => exact Kd.R_tight rfl HO_10.out); rintro e w49 ⟨rfl, hy0, hb, hkp⟩; refine ⟨_, rfl, ?_⟩; replace HO_8 := Aside0.mk (Kd.R_mono (ok' := fun k_ => some k_ ≠ (.slice Ao22 t386.length co22 : Value).ownBlock ∧ some k_ ≠ (.slice Ao23 t389.length co23 : Value).ownBlock ∧ some k_ ≠ (v394 : Value).ownBlock ∧ some k_ ≠ (.slice Ao44 t397.length co44 : Value).ownBlock ∧ some k_ ≠ (.slice Ao47 t401.length co47 : Value).ownBlock) (Kd.R_keptB (HO_8.out) hkp (fun k_ hk_ hs_ => (hk_.1.1.1) hs_)) (fun k_ hk_ => ⟨hk_.1.1.1.1, hk_.1.1.1.2.1, hk_.1.1.1.2.2, hk_.1.1.2, hk_.1.2⟩)); replace HO_10 := Aside0.mk (Kd.R_reok rfl hy0 (fun k_ e_ => HO_10.out.1 k_ e_)); replace HO_11 := Aside0.mk (Kd.R_mono (ok' := fun k_ => some k_ ≠ (v383 : Value).ownBlock ∧ some k_ ≠ (.slice Ao22 t386.length co22 : Value).ownBlock ∧ some k_ ≠ (v394 : Value).ownBlock ∧ some k_ ≠ (.slice Ao44 t397.length co44 : Value).ownBlock ∧ some k_ ≠ (.slice Ao47 t401.length co47 : Value).ownBlock) (Kd.R_keptB (HO_11.out) hkp (fun k_ hk_ hs_ => (hk_.1.1.2.1) hs_)) (fun k_ hk_ => ⟨hk_.1.1.1.1, hk_.1.1.1.2.1, hk_.1.1.1.2.2, hk_.1.1.2, hk_.1.2⟩)); replace HO_12 := Aside0.mk (Kd.R_mono (ok' := fun k_ => some k_ ≠ (v383 : Value).ownBlock ∧ some k_ ≠ (.slice Ao22 t386.length co22 : Value).ownBlock ∧ some k_ ≠ (.slice Ao23 t389.length co23 : Value).ownBlock ∧ some k_ ≠ (.slice Ao44 t397.length co44 : Value).ownBlock ∧ some k_ ≠ (.slice Ao47 t401.length co47 : Value).ownBlock) (Kd.R_keptB (HO_12.out) hkp (fun k_ hk_ hs_ => (hk_.1.1.2.1) hs_)) (fun k_ hk_ => ⟨hk_.1.1.1.1, hk_.1.1.1.2.1, hk_.1.1.1.2.2, hk_.1.1.2, hk_.1.2⟩)); replace HO399 := Aside0.mk (Kd.R_mono (ok' := fun k_ => some k_ ≠ (v383 : Value).ownBlock ∧ some k_ ≠ (.slice Ao22 t386.length co22 : Value).ownBlock ∧ some k_ ≠ (.slice Ao23 t389.length co23 : Value).ownBlock ∧ some k_ ≠ (v394 : Value).ownBlock ∧ some k_ ≠ (.slice Ao47 t401.length co47 : Value).ownBlock) (Kd.R_keptB (HO399.out) hkp (fun k_ hk_ hs_ => (hk_.1.1.1.2) hs_)) (fun k_ hk_ => ⟨hk_.1.1.1.1.1.2, hk_.1.1.1.1.2, hk_.1.1.1.2, hk_.1.1.2, hk_.1.2⟩)); replace HO403 := Aside0.mk (Kd.R_mono (ok' := fun k_ => some k_ ≠ (v383 : Value).ownBlock ∧ some k_ ≠ (.slice Ao22 t386.length co22 : Value).ownBlock ∧ some k_ ≠ (.slice Ao23 t389.length co23 : Value).ownBlock ∧ some k_ ≠ (v394 : Value).ownBlock ∧ some k_ ≠ (.slice Ao44 t397.length co44 : Value).ownBlock) (Kd.R_keptB (HO403.out) hkp (fun k_ hk_ hs_ => (hk_.1.1.1.2) hs_)) (fun k_ hk_ => ⟨hk_.1.1.1.1.1.2, hk_.1.1.1.1.2, hk_.1.1.1.2, hk_.1.1.2, hk_.1.2⟩)); replace HB := Aside0.mk (hb); (try clear hb); (try clear hkp); (try clear hy0)) | ((with_reducible refine gate_callee (f := 16) rfl ?_); refine goesL_ (some 73) rfl rfl Tryd.func16 (by kernel_rfl) rfl #[.slice Ao23 t389.length co23, .int .i64 t405] rfl amp_ ?_; (with_reducible refine (laws_markDiagonalS.calls kj13 (fun k_ => some k_ = (.slice Ao23 t389.length co23 : Value).ownBlock) (.slice Ao23 t389.length co23) t389 t405 t407 t408 w _ ?side1 ?side2 A41.out).mono ?_); (case side1 => repeat (first | (with_reducible first | exact HB.out | apply below_alloc | apply pw_below_drewN | apply below_drew1) | exact HB.out)); (case side2 => exact Kd.R_tight rfl HO_11.out); rintro e w50 ⟨rfl, hy0, hb, hkp⟩; refine ⟨_, rfl, ?_⟩; replace HO_8 := Aside0.mk (Kd.R_mono (ok' := fun k_ => some k_ ≠ (.slice Ao22 t386.length co22 : Value).ownBlock ∧ some k_ ≠ (.slice Ao23 t389.length co23 : Value).ownBlock ∧ some k_ ≠ (v394 : Value).ownBlock ∧ some k_ ≠ (.slice Ao44 t397.length co44 : Value).ownBlock ∧ some k_ ≠ (.slice Ao47 t401.length co47 : Value).ownBlock) (Kd.R_keptB (HO_8.out) hkp (fun k_ hk_ hs_ => (hk_.2.1) hs_)) (fun k_ hk_ => ⟨hk_.1.1, hk_.1.2.1, hk_.1.2.2.1, hk_.1.2.2.2.1, hk_.1.2.2.2.2⟩)); replace HO_10 := Aside0.mk (Kd.R_mono (ok' := fun k_ => some k_ ≠ (v383 : Value).ownBlock ∧ some k_ ≠ (.slice Ao23 t389.length co23 : Value).ownBlock ∧ some k_ ≠ (v394 : Value).ownBlock ∧ some k_ ≠ (.slice Ao44 t397.length co44 : Value).ownBlock ∧ some k_ ≠ (.slice Ao47 t401.length co47 : Value).ownBlock) (Kd.R_keptB (HO_10.out) hkp (fun k_ hk_ hs_ => (hk_.1.1.2.1) hs_)) (fun k_ hk_ => ⟨hk_.1.1.1.1, hk_.1.1.1.2.1, hk_.1.1.1.2.2, hk_.1.1.2, hk_.1.2⟩)); replace HO_11 := Aside0.mk (Kd.R_reok rfl hy0 (fun k_ e_ => HO_11.out.1 k_ e_)); replace HO_12 := Aside0.mk (Kd.R_mono (ok' := fun k_ => some k_ ≠ (v383 : Value).ownBlock ∧ some k_ ≠ (.slice Ao22 t386.length co22 : Value).ownBlock ∧ some k_ ≠ (.slice Ao23 t389.length co23 : Value).ownBlock ∧ some k_ ≠ (.slice Ao44 t397.length co44 : Value).ownBlock ∧ some k_ ≠ (.slice Ao47 t401.length co47 : Value).ownBlock) (Kd.R_keptB (HO_12.out) hkp (fun k_ hk_ hs_ => (hk_.2.2.1) hs_)) (fun k_ hk_ => ⟨hk_.1.1, hk_.1.2.1, hk_.1.2.2.1, hk_.1.2.2.2.1, hk_.1.2.2.2.2⟩)); replace HO399 := Aside0.mk (Kd.R_mono (ok' := fun k_ => some k_ ≠ (v383 : Value).ownBlock ∧ some k_ ≠ (.slice Ao22 t386.length co22 : Value).ownBlock ∧ some k_ ≠ (.slice Ao23 t389.length co23 : Value).ownBlock ∧ some k_ ≠ (v394 : Value).ownBlock ∧ some k_ ≠ (.slice Ao47 t401.length co47 : Value).ownBlock) (Kd.R_keptB (HO399.out) hkp (fun k_ hk_ hs_ => (hk_.2.2.1) hs_)) (fun k_ hk_ => ⟨hk_.1.1, hk_.1.2.1, hk_.1.2.2.1, hk_.1.2.2.2.1, hk_.1.2.2.2.2⟩)); replace HO403 := Aside0.mk (Kd.R_mono (ok' := fun k_ => some k_ ≠ (v383 : Value).ownBlock ∧ some k_ ≠ (.slice Ao22 t386.length co22 : Value).ownBlock ∧ some k_ ≠ (.slice Ao23 t389.length co23 : Value).ownBlock ∧ some k_ ≠ (v394 : Value).ownBlock ∧ some k_ ≠ (.slice Ao44 t397.length co44 : Value).ownBlock) (Kd.R_keptB (HO403.out) hkp (fun k_ hk_ hs_ => (hk_.2.2.1) hs_)) (fun k_ hk_ => ⟨hk_.1.1, hk_.1.2.1, hk_.1.2.2.1, hk_.1.2.2.2.1, hk_.1.2.2.2.2⟩)); replace HB := Aside0.mk (hb); (try clear hb); (try clear hkp); (try clear hy0)))
        (try simp only [Act.put, List.setIfInBounds_toArray, List.set_cons_zero, List.set_cons_succ])
        go_cut [86] (fun v86 wc => ∃ (kq : Nat) (x86_41 : Bool), v86 = .bool x86_41 ∧ Aside0 (laws_FnExactFirstFlips.j1 kq a0 l1 l2 t382 t385 t392 x86_41 = some r) ∧ Aside0 (kq ≤ kj13) ∧ Aside0 (Kd.R k49 49 wc w.heap.size (fun k_ => some k_ ≠ (v394 : Value).ownBlock) v383 t382) ∧ Aside0 (Kd.R k49 49 wc w.heap.size (fun k_ => some k_ ≠ (v383 : Value).ownBlock) v394 t392) ∧ Aside0 (Below w.heap.size w wc))
        case first =>
         have H := HC42.out
         clear HC42
         by_cases c51 : t407 < 0
         ·rw [if_pos c51] at H
          have c51b0 : decide (t407 < 0) = true := decide_eq_true c51
          clear c51
          (first | rw [c51b0] | (simp only [i64_w, i32_w]; rw [c51b0]) | skip)
          have H' := Aside0.mk H
          clear H
          go_wp2
          go_meet
          case rel => exact ⟨_, (true), rsd_, H', ⟨by have := HJ13.out; first | omega | exact Nat.le_refl _⟩, ⟨by (with_reducible repeat (first | apply Kd.R_alloc | apply Kd.R_drewN | apply Kd.R_drew)); exact Kd.R_mono HO_8.out (fun _ hk => hk.2.2.1)⟩, ⟨by (with_reducible repeat (first | apply Kd.R_alloc | apply Kd.R_drewN | apply Kd.R_drew)); exact Kd.R_mono HO_12.out (fun _ hk => hk.1)⟩, ⟨blw_⟩⟩
         ·rw [if_neg c51] at H
          have c51b0 : decide (t407 < 0) = false := decide_eq_false c51
          clear c51
          (first | rw [c51b0] | (simp only [i64_w, i32_w]; rw [c51b0]) | skip)
          replace H := Option.bind_eq_some_iff.mp H
          obtain ⟨t409, A520, H⟩ := H
          replace H : (if t409 = true then (laws_FnExactFirstFlips.j1 kj13 a0 l1 l2 t382 t385 t392 (t393 != t385)) else (laws_FnExactFirstFlips.j1 kj13 a0 l1 l2 t382 t385 t392 true)) = some r := H
          have A52 := Aside0.mk A520
          clear A520
          by_cases c53 : t409 = true
          ·subst c53
           replace H : (laws_FnExactFirstFlips.j1 kj13 a0 l1 l2 t382 t385 t392 (t393 != t385)) = some r := by rw [if_pos rfl] at H; exact H
           have H' := Aside0.mk H
           clear H
           obtain ⟨Ao54, co54, eo54⟩ := Kd.R_slice HO_12.out
           subst eo54
           obtain ⟨Ao55, co55, eo55⟩ := Kd.R_slice HO_8.out
           subst eo55
           go_wp2_with (first | (go_at_call 13; (with_reducible refine (laws_eqDiagonalS.calls kj13 _ _ t392 _ _ t382 true _ ?side1 ?side2 ?side3 ?side4 A52.out).mono ?_); (case side1 => exact cd_ (Kd.R_reads' HO_12.out).2.2); (case side2 => exact (Kd.R_reads' HO_12.out).2.1); (case side3 => exact cd_ (Kd.R_reads' HO_8.out).2.2); (case side4 => exact (Kd.R_reads' HO_8.out).2.1); rintro e w56 ⟨rfl, hb⟩; replace HO_8 := Aside0.mk (Kd.R_below (ra_ HO_8.out) hb); replace HO_10 := Aside0.mk (Kd.R_below (ra_ HO_10.out) hb); replace HO_11 := Aside0.mk (Kd.R_below (ra_ HO_11.out) hb); replace HO_12 := Aside0.mk (Kd.R_below (ra_ HO_12.out) hb); replace HO399 := Aside0.mk (Kd.R_below (ra_ HO399.out) hb); replace HO403 := Aside0.mk (Kd.R_below (ra_ HO403.out) hb); replace HB := Aside0.mk (below_step blw_ hb); (try clear hb); (try clear hb2); (try clear hk); (try clear hi)))
           go_meet
           case rel => exact ⟨_, ((t393 != t385)), rsd_, H', ⟨by have := HJ13.out; first | omega | exact Nat.le_refl _⟩, ⟨by (with_reducible repeat (first | apply Kd.R_alloc | apply Kd.R_drewN | apply Kd.R_drew)); exact Kd.R_mono HO_8.out (fun _ hk => hk.2.2.1)⟩, ⟨by (with_reducible repeat (first | apply Kd.R_alloc | apply Kd.R_drewN | apply Kd.R_drew)); exact Kd.R_mono HO_12.out (fun _ hk => hk.1)⟩, ⟨blw_⟩⟩
          ·replace c53 := Bool.eq_false_iff.mpr c53
           subst c53
           replace H : (laws_FnExactFirstFlips.j1 kj13 a0 l1 l2 t382 t385 t392 true) = some r := by rw [if_neg (show ¬ (false = true) by decide)] at H; exact H
           have H' := Aside0.mk H
           clear H
           obtain ⟨Ao57, co57, eo57⟩ := Kd.R_slice HO_12.out
           subst eo57
           obtain ⟨Ao58, co58, eo58⟩ := Kd.R_slice HO_8.out
           subst eo58
           go_wp2_with (first | (go_at_call 13; (with_reducible refine (laws_eqDiagonalS.calls kj13 _ _ t392 _ _ t382 false _ ?side1 ?side2 ?side3 ?side4 A52.out).mono ?_); (case side1 => exact cd_ (Kd.R_reads' HO_12.out).2.2); (case side2 => exact (Kd.R_reads' HO_12.out).2.1); (case side3 => exact cd_ (Kd.R_reads' HO_8.out).2.2); (case side4 => exact (Kd.R_reads' HO_8.out).2.1); rintro e w59 ⟨rfl, hb⟩; replace HO_8 := Aside0.mk (Kd.R_below (ra_ HO_8.out) hb); replace HO_10 := Aside0.mk (Kd.R_below (ra_ HO_10.out) hb); replace HO_11 := Aside0.mk (Kd.R_below (ra_ HO_11.out) hb); replace HO_12 := Aside0.mk (Kd.R_below (ra_ HO_12.out) hb); replace HO399 := Aside0.mk (Kd.R_below (ra_ HO399.out) hb); replace HO403 := Aside0.mk (Kd.R_below (ra_ HO403.out) hb); replace HB := Aside0.mk (below_step blw_ hb); (try clear hb); (try clear hb2); (try clear hk); (try clear hi)))
           go_meet
           case rel => exact ⟨_, (true), rsd_, H', ⟨by have := HJ13.out; first | omega | exact Nat.le_refl _⟩, ⟨by (with_reducible repeat (first | apply Kd.R_alloc | apply Kd.R_drewN | apply Kd.R_drew)); exact Kd.R_mono HO_8.out (fun _ hk => hk.2.2.1)⟩, ⟨by (with_reducible repeat (first | apply Kd.R_alloc | apply Kd.R_drewN | apply Kd.R_drew)); exact Kd.R_mono HO_12.out (fun _ hk => hk.1)⟩, ⟨blw_⟩⟩
        case rest =>
         clear HC42
         try clear c1
         try clear c2
         try clear p2
         try clear c3
         try clear c5
         try clear c5b0
         try clear c7
         try clear c7b0
         try clear c9
         try clear c11
         try clear c13
         try clear c14
         try clear c15
         try clear c16
         try clear c26
         try clear c33
         try clear c36
         try clear c39
         try clear c51
         try clear c51b0
         try clear c53
         try clear p2
         obtain ⟨kq, x86_41, rfl, HA, HJ41, HO_8, HO_12, HB⟩ := hcut
         cases kq with
         | zero => exact absurd HA.out (by simp [laws_FnExactFirstFlips.j1])
         | succ kj41 =>
          have H := HA.out
          clear HA
          simp only [laws_FnExactFirstFlips.j1] at H
          by_cases c60 : x86_41 = true
          ·subst c60
           replace H : (some false) = some r := by rw [if_pos rfl] at H; exact H
           exact absurd (H.trans (congrArg some htrue.out)) (by decide)
          ·replace c60 := Bool.eq_false_iff.mpr c60
           subst c60
           replace H : ((laws_markDiagonalS.f kj41 t392 1).bind fun bt410 => ((laws_heldDiagonalS.f kj41 bt410.2 1).bind fun t412 => (if t412 < 0 then (some false) else (if t412 = bt410.1 then ((laws_toDiagonalS.f kj41 l1).bind fun t413 => ((laws_toDiagonalS.f kj41 l2).bind fun t416 => ((impl_FirstFlips.f kj41 a0 t413 t416).bind fun bt419 => ((laws_eqDiagonalS.f kj41 bt419.1 t382).bind fun t423 => (if t423 = true then (laws_FnExactFirstFlips.j2 kj41 bt410.2 bt410.1 (bt419.2 != t385)) else (laws_FnExactFirstFlips.j2 kj41 bt410.2 bt410.1 true)))))) else (some false))))) = some r := by rw [if_neg (show ¬ (false = true) by decide)] at H; exact H
           replace H := Option.bind_eq_some_iff.mp H
           obtain ⟨⟨t410, t411⟩, A610, H⟩ := H
           replace H : ((laws_heldDiagonalS.f kj41 t411 1).bind fun t412 => (if t412 < 0 then (some false) else (if t412 = t410 then ((laws_toDiagonalS.f kj41 l1).bind fun t413 => ((laws_toDiagonalS.f kj41 l2).bind fun t416 => ((impl_FirstFlips.f kj41 a0 t413 t416).bind fun bt419 => ((laws_eqDiagonalS.f kj41 bt419.1 t382).bind fun t423 => (if t423 = true then (laws_FnExactFirstFlips.j2 kj41 t411 t410 (bt419.2 != t385)) else (laws_FnExactFirstFlips.j2 kj41 t411 t410 true)))))) else (some false)))) = some r := H
           have A61 := Aside0.mk A610
           clear A610
           replace H := Option.bind_eq_some_iff.mp H
           obtain ⟨t412, A620, H⟩ := H
           replace H : (if t412 < 0 then (some false) else (if t412 = t410 then ((laws_toDiagonalS.f kj41 l1).bind fun t413 => ((laws_toDiagonalS.f kj41 l2).bind fun t416 => ((impl_FirstFlips.f kj41 a0 t413 t416).bind fun bt419 => ((laws_eqDiagonalS.f kj41 bt419.1 t382).bind fun t423 => (if t423 = true then (laws_FnExactFirstFlips.j2 kj41 t411 t410 (bt419.2 != t385)) else (laws_FnExactFirstFlips.j2 kj41 t411 t410 true)))))) else (some false))) = some r := H
           have A62 := Aside0.mk A620
           clear A620
           by_cases c63 : t412 < 0
           ·rw [if_pos c63] at H
            have c63b0 : decide (t412 < 0) = true := decide_eq_true c63
            clear c63
            exact absurd (H.trans (congrArg some htrue.out)) (by decide)
           ·rw [if_neg c63] at H
            have c63b0 : decide (t412 < 0) = false := decide_eq_false c63
            clear c63
            by_cases c64 : t412 = t410
            ·rw [if_pos c64] at H
             have c64b0 : (t412 == t410) = true := beq_iff_eq.mpr c64
             have c64b1 : (t412 != t410) = false := bne_eq_false_iff_eq.mpr c64
             clear c64
             replace H := Option.bind_eq_some_iff.mp H
             obtain ⟨t413, A650, H⟩ := H
             replace H : ((laws_toDiagonalS.f kj41 l2).bind fun t416 => ((impl_FirstFlips.f kj41 a0 t413 t416).bind fun bt419 => ((laws_eqDiagonalS.f kj41 bt419.1 t382).bind fun t423 => (if t423 = true then (laws_FnExactFirstFlips.j2 kj41 t411 t410 (bt419.2 != t385)) else (laws_FnExactFirstFlips.j2 kj41 t411 t410 true))))) = some r := H
             have A65 := Aside0.mk A650
             clear A650
             replace H := Option.bind_eq_some_iff.mp H
             obtain ⟨t416, A660, H⟩ := H
             replace H : ((impl_FirstFlips.f kj41 a0 t413 t416).bind fun bt419 => ((laws_eqDiagonalS.f kj41 bt419.1 t382).bind fun t423 => (if t423 = true then (laws_FnExactFirstFlips.j2 kj41 t411 t410 (bt419.2 != t385)) else (laws_FnExactFirstFlips.j2 kj41 t411 t410 true)))) = some r := H
             have A66 := Aside0.mk A660
             clear A660
             replace H := Option.bind_eq_some_iff.mp H
             obtain ⟨⟨t419, t420⟩, A670, H⟩ := H
             replace H : ((laws_eqDiagonalS.f kj41 t419 t382).bind fun t423 => (if t423 = true then (laws_FnExactFirstFlips.j2 kj41 t411 t410 (t420 != t385)) else (laws_FnExactFirstFlips.j2 kj41 t411 t410 true))) = some r := H
             have A67 := Aside0.mk A670
             clear A670
             have HC68 := Aside0.mk H
             clear H
             obtain ⟨Ao69, co69, eo69⟩ := Kd.R_slice HO_12.out
             subst eo69
             go_upto_region 32 with (first | ((with_reducible refine gate_callee (f := 16) rfl ?_); refine goesL_ (some 89) rfl rfl Tryd.func16 (by kernel_rfl) rfl #[.slice Ao69 t392.length co69, .int .i64 1] rfl amp_ ?_; (with_reducible refine (laws_markDiagonalS.calls kj41 (fun k_ => some k_ = (.slice Ao69 t392.length co69 : Value).ownBlock) (.slice Ao69 t392.length co69) t392 1 t410 t411 w _ ?side1 ?side2 A61.out).mono ?_); (case side1 => repeat (first | (with_reducible first | exact HB.out | apply below_alloc | apply pw_below_drewN | apply below_drew1) | exact HB.out)); (case side2 => exact Kd.R_tight rfl HO_12.out); rintro e w70 ⟨rfl, hy0, hb, hkp⟩; refine ⟨_, rfl, ?_⟩; replace HO_8 := Aside0.mk (Kd.R_mono (ok' := fun k_ => some k_ ≠ (.slice Ao69 t392.length co69 : Value).ownBlock) (Kd.R_keptB (HO_8.out) hkp (fun k_ hk_ hs_ => (hk_) hs_)) (fun k_ hk_ => hk_.1)); replace HO_12 := Aside0.mk (Kd.R_reok rfl hy0 (fun k_ e_ => HO_12.out.1 k_ e_)); replace HB := Aside0.mk (hb); (try clear hb); (try clear hkp); (try clear hy0)) | ((with_reducible refine gate_callee (f := 17) rfl ?_); refine goesL_ (some 92) rfl rfl Tryd.func17 (by kernel_rfl) rfl #[.slice Ao69 t411.length co69, .int .i64 1] rfl (by (try simp only [List.map_toArray, List.map_cons, List.map_nil]); first | done | (rw [show t411.length = t392.length from (Kd.R_reads' HO_12.out).1.symm] <;> rfl) | rfl | (simp only [List.length_drop, List.length_take]; rfl)) ?_; (with_reducible refine (laws_heldDiagonalS.calls kj41 _ _ t411 1 t412 _ ?side1 ?side2 A62.out).mono ?_); (case side1 => exact cd_ (Kd.R_reads' HO_12.out).2.2); (case side2 => rw [show t411.length = t392.length from (Kd.R_reads' HO_12.out).1.symm]; exact (Kd.R_reads' HO_12.out).2.1); rintro e w' ⟨rfl, ⟨nd, rfl⟩⟩; refine ⟨_, rfl, ?_⟩) | ((with_reducible refine gate_callee (f := 11) rfl ?_); refine goesL_ (some 101) rfl rfl Tryd.func11 (by kernel_rfl) rfl #[.slice A1 l1.length c1] rfl amp_ ?_; (with_reducible refine (laws_toDiagonalS.calls kj41 _ _ l1 t413 _ ?side1 ?side2 A65.out).mono ?_); (case side1 => exact cd_ (Kd.C_below HR1.out blw_)); (case side2 => exact HC1.out); rintro e w71 ⟨v414, rfl, ho0, hb⟩; refine ⟨_, rfl, ?_⟩; have HO415 := Aside0.mk (Kd.R_lower (Kd.R_new' (Kd.R_new' ho0 (Kd.R_lt (ra_ HO_8.out))) (Kd.R_lt (ra_ HO_12.out))) (below_size blw_)); replace HO_8 := Aside0.mk (Kd.R_elder' (ra_ HO_8.out) (Kd.R_base ho0) hb); replace HO_12 := Aside0.mk (Kd.R_elder' (ra_ HO_12.out) (Kd.R_base ho0) hb); replace HB := Aside0.mk (below_step blw_ hb); (try clear hb); (try clear hb2); (try clear hk); (try clear hi); (try clear ho0)) | ((with_reducible refine gate_callee (f := 11) rfl ?_); refine goesL_ (some 103) rfl rfl Tryd.func11 (by kernel_rfl) rfl #[.slice A2 l2.length c2] rfl amp_ ?_; (with_reducible refine (laws_toDiagonalS.calls kj41 _ _ l2 t416 _ ?side1 ?side2 A66.out).mono ?_); (case side1 => exact cd_ (Kd.C_below HR2.out HB.out)); (case side2 => exact HC2.out); rintro e w72 ⟨v417, rfl, ho0, hb⟩; refine ⟨_, rfl, ?_⟩; have HO418 := Aside0.mk (Kd.R_lower (Kd.R_new' (Kd.R_new' (Kd.R_new' ho0 (Kd.R_lt (ra_ HO_8.out))) (Kd.R_lt (ra_ HO_12.out))) (Kd.R_lt (ra_ HO415.out))) (below_size blw_)); replace HO_8 := Aside0.mk (Kd.R_elder' (ra_ HO_8.out) (Kd.R_base ho0) hb); replace HO_12 := Aside0.mk (Kd.R_elder' (ra_ HO_12.out) (Kd.R_base ho0) hb); replace HO415 := Aside0.mk (Kd.R_elder' (ra_ HO415.out) (Kd.R_base ho0) hb); replace HB := Aside0.mk (below_step blw_ hb); (try clear hb); (try clear hb2); (try clear hk); (try clear hi); (try clear ho0); obtain ⟨Ao73, co73, eo73⟩ := Kd.R_slice HO415.out; subst eo73; obtain ⟨Ao74, co74, eo74⟩ := Kd.R_slice HO418.out; subst eo74) | ((with_reducible refine gate_callee (f := 15) rfl ?_); refine goesL_ (some 104) rfl rfl Tryd.func15 (by kernel_rfl) rfl #[.int .i64 a0, .slice Ao73 t413.length co73, .slice Ao74 t416.length co74] rfl amp_ ?_; (with_reducible refine (impl_FirstFlips.calls kj41 a0 _ _ t413 _ _ t416 t419 t420 _ ?side1 ?side2 ?side3 ?side4 A67.out (HTAB.out.below blw_)).mono ?_); (case side1 => exact cd_ (Kd.R_reads' HO415.out).2.2); (case side2 => exact (Kd.R_reads' HO415.out).2.1); (case side3 => exact cd_ (Kd.R_reads' HO418.out).2.2); (case side4 => exact (Kd.R_reads' HO418.out).2.1); rintro e w75 ⟨v421, rfl, ho0, hb⟩; refine ⟨_, rfl, ?_⟩; have HO422 := Aside0.mk (Kd.R_lower (Kd.R_new' (Kd.R_new' (Kd.R_new' (Kd.R_new' ho0 (Kd.R_lt (ra_ HO_8.out))) (Kd.R_lt (ra_ HO_12.out))) (Kd.R_lt (ra_ HO415.out))) (Kd.R_lt (ra_ HO418.out))) (below_size blw_)); replace HO_8 := Aside0.mk (Kd.R_elder' (ra_ HO_8.out) (Kd.R_base ho0) hb); replace HO_12 := Aside0.mk (Kd.R_elder' (ra_ HO_12.out) (Kd.R_base ho0) hb); replace HO415 := Aside0.mk (Kd.R_elder' (ra_ HO415.out) (Kd.R_base ho0) hb); replace HO418 := Aside0.mk (Kd.R_elder' (ra_ HO418.out) (Kd.R_base ho0) hb); replace HB := Aside0.mk (below_step blw_ hb); (try clear hb); (try clear hb2); (try clear hk); (try clear hi); (try clear ho0)))
             (try simp only [Act.put, List.setIfInBounds_toArray, List.set_cons_zero, List.set_cons_succ])
             go_cut [115] (fun v115 wc => ∃ (kq : Nat) (x115_67 : Bool), v115 = .bool x115_67 ∧ Aside0 (laws_FnExactFirstFlips.j2 kq t411 t410 x115_67 = some r) ∧ Aside0 (kq ≤ kj41) ∧ Aside0 (Kd.R k49 49 wc w.heap.size (fun _ => True) (.slice Ao69 t392.length co69) t411) ∧ Aside0 (Below w.heap.size w wc))
             case first =>
              have H := HC68.out
              clear HC68
              replace H := Option.bind_eq_some_iff.mp H
              obtain ⟨t423, A760, H⟩ := H
              replace H : (if t423 = true then (laws_FnExactFirstFlips.j2 kj41 t411 t410 (t420 != t385)) else (laws_FnExactFirstFlips.j2 kj41 t411 t410 true)) = some r := H
              have A76 := Aside0.mk A760
              clear A760
              by_cases c77 : t423 = true
              ·subst c77
               replace H : (laws_FnExactFirstFlips.j2 kj41 t411 t410 (t420 != t385)) = some r := by rw [if_pos rfl] at H; exact H
               have H' := Aside0.mk H
               clear H
               obtain ⟨Ao78, co78, eo78⟩ := Kd.R_slice HO422.out
               subst eo78
               obtain ⟨Ao79, co79, eo79⟩ := Kd.R_slice HO_8.out
               subst eo79
               go_wp2_with (first | ((with_reducible refine gate_callee (f := 13) rfl ?_); refine goesL_ (some 109) rfl rfl Tryd.func13 (by kernel_rfl) rfl #[.slice Ao78 t419.length co78, .slice Ao79 t382.length co79] rfl amp_ ?_; (with_reducible refine (laws_eqDiagonalS.calls kj41 _ _ t419 _ _ t382 true _ ?side1 ?side2 ?side3 ?side4 A76.out).mono ?_); (case side1 => exact cd_ (Kd.R_reads' HO422.out).2.2); (case side2 => exact (Kd.R_reads' HO422.out).2.1); (case side3 => exact cd_ (Kd.R_reads' HO_8.out).2.2); (case side4 => exact (Kd.R_reads' HO_8.out).2.1); rintro e w80 ⟨rfl, hb⟩; refine ⟨_, rfl, ?_⟩; replace HO_8 := Aside0.mk (Kd.R_below (ra_ HO_8.out) hb); replace HO_12 := Aside0.mk (Kd.R_below (ra_ HO_12.out) hb); replace HO415 := Aside0.mk (Kd.R_below (ra_ HO415.out) hb); replace HO418 := Aside0.mk (Kd.R_below (ra_ HO418.out) hb); replace HO422 := Aside0.mk (Kd.R_below (ra_ HO422.out) hb); replace HB := Aside0.mk (below_step blw_ hb); (try clear hb); (try clear hb2); (try clear hk); (try clear hi)))
               go_meet
               case rel => exact ⟨_, ((t420 != t385)), rsd_, H', ⟨by have := HJ13.out; have := HJ41.out; first | omega | exact Nat.le_refl _⟩, ⟨by (with_reducible repeat (first | apply Kd.R_alloc | apply Kd.R_drewN | apply Kd.R_drew)); exact Kd.R_mono HO_12.out (fun _ hk => trivial)⟩, ⟨blw_⟩⟩
              ·replace c77 := Bool.eq_false_iff.mpr c77
               subst c77
               replace H : (laws_FnExactFirstFlips.j2 kj41 t411 t410 true) = some r := by rw [if_neg (show ¬ (false = true) by decide)] at H; exact H
               have H' := Aside0.mk H
               clear H
               obtain ⟨Ao81, co81, eo81⟩ := Kd.R_slice HO422.out
               subst eo81
               obtain ⟨Ao82, co82, eo82⟩ := Kd.R_slice HO_8.out
               subst eo82
               go_wp2_with (first | ((with_reducible refine gate_callee (f := 13) rfl ?_); refine goesL_ (some 109) rfl rfl Tryd.func13 (by kernel_rfl) rfl #[.slice Ao81 t419.length co81, .slice Ao82 t382.length co82] rfl amp_ ?_; (with_reducible refine (laws_eqDiagonalS.calls kj41 _ _ t419 _ _ t382 false _ ?side1 ?side2 ?side3 ?side4 A76.out).mono ?_); (case side1 => exact cd_ (Kd.R_reads' HO422.out).2.2); (case side2 => exact (Kd.R_reads' HO422.out).2.1); (case side3 => exact cd_ (Kd.R_reads' HO_8.out).2.2); (case side4 => exact (Kd.R_reads' HO_8.out).2.1); rintro e w83 ⟨rfl, hb⟩; refine ⟨_, rfl, ?_⟩; replace HO_8 := Aside0.mk (Kd.R_below (ra_ HO_8.out) hb); replace HO_12 := Aside0.mk (Kd.R_below (ra_ HO_12.out) hb); replace HO415 := Aside0.mk (Kd.R_below (ra_ HO415.out) hb); replace HO418 := Aside0.mk (Kd.R_below (ra_ HO418.out) hb); replace HO422 := Aside0.mk (Kd.R_below (ra_ HO422.out) hb); replace HB := Aside0.mk (below_step blw_ hb); (try clear hb); (try clear hb2); (try clear hk); (try clear hi)))
               go_meet
               case rel => exact ⟨_, (true), rsd_, H', ⟨by have := HJ13.out; have := HJ41.out; first | omega | exact Nat.le_refl _⟩, ⟨by (with_reducible repeat (first | apply Kd.R_alloc | apply Kd.R_drewN | apply Kd.R_drew)); exact Kd.R_mono HO_12.out (fun _ hk => trivial)⟩, ⟨blw_⟩⟩
             case rest =>
              clear HC68
              try clear c1
              try clear c2
              try clear p2
              try clear c3
              try clear c5
              try clear c5b0
              try clear c6
              try clear c7
              try clear c7b0
              try clear c9
              try clear c11
              try clear c13
              try clear c14
              try clear c15
              try clear c16
              try clear c17
              try clear c26
              try clear c33
              try clear c36
              try clear c39
              try clear c51
              try clear c51b0
              try clear c53
              try clear c60
              try clear c63
              try clear c63b0
              try clear c64
              try clear c64b0
              try clear c64b1
              try clear c77
              try clear p2
              obtain ⟨kq, x115_67, rfl, HA, HJ67, HO_12, HB⟩ := hcut
              have hl12_67 := (Kd.R_reads' HO_12.out).1
              rw [hl12_67] at HO_12
              (try simp only [hl12_67])
              cases kq with
              | zero => exact absurd HA.out (by simp [laws_FnExactFirstFlips.j2])
              | succ kj67 =>
               have H := HA.out
               clear HA
               simp only [laws_FnExactFirstFlips.j2] at H
               by_cases c84 : x115_67 = true
               ·subst c84
                replace H : (some false) = some r := by rw [if_pos rfl] at H; exact H
                exact absurd (H.trans (congrArg some htrue.out)) (by decide)
               ·replace c84 := Bool.eq_false_iff.mpr c84
                subst c84
                replace H : ((laws_heldDiagonalS.f kj67 t411 1).bind fun t424 => (if t424 < 0 then (some false) else (if t424 = t410 then (some true) else (some false)))) = some r := by rw [if_neg (show ¬ (false = true) by decide)] at H; exact H
                replace H := Option.bind_eq_some_iff.mp H
                obtain ⟨t424, A850, H⟩ := H
                replace H : (if t424 < 0 then (some false) else (if t424 = t410 then (some true) else (some false))) = some r := H
                have A85 := Aside0.mk A850
                clear A850
                by_cases c86 : t424 < 0
                ·rw [if_pos c86] at H
                 have c86b0 : decide (t424 < 0) = true := decide_eq_true c86
                 clear c86
                 exact absurd (H.trans (congrArg some htrue.out)) (by decide)
                ·rw [if_neg c86] at H
                 have c86b0 : decide (t424 < 0) = false := decide_eq_false c86
                 clear c86
                 by_cases c87 : t424 = t410
                 ·rw [if_pos c87] at H
                  have c87b0 : (t424 == t410) = true := beq_iff_eq.mpr c87
                  have c87b1 : (t424 != t410) = false := bne_eq_false_iff_eq.mpr c87
                  clear c87
                  obtain rfl := Option.some.inj H
                  go_wp2_with (first | ((with_reducible refine gate_callee (f := 17) rfl ?_); refine goesL_ (some 118) rfl rfl Tryd.func17 (by kernel_rfl) rfl #[.slice Ao69 t411.length co69, .int .i64 1] rfl amp_ ?_; (with_reducible refine (laws_heldDiagonalS.calls kj67 _ _ t411 1 t424 _ ?side1 ?side2 A85.out).mono ?_); (case side1 => exact cd_ (Kd.R_reads' HO_12.out).2.2); (case side2 => exact (Kd.R_reads' HO_12.out).2.1); rintro e w' ⟨rfl, ⟨nd, rfl⟩⟩; refine ⟨_, rfl, ?_⟩))
                  go_ret
                  exact er_
                 ·rw [if_neg c87] at H
                  have c87b0 : (t424 == t410) = false := beq_eq_false_iff_ne.mpr c87
                  have c87b1 : (t424 != t410) = true := bne_iff_ne.mpr c87
                  exact absurd (H.trans (congrArg some htrue.out)) (by decide)
            ·rw [if_neg c64] at H
             have c64b0 : (t412 == t410) = false := beq_eq_false_iff_ne.mpr c64
             have c64b1 : (t412 != t410) = true := bne_iff_ne.mpr c64
             exact absurd (H.trans (congrArg some htrue.out)) (by decide)
       ·replace c39 := Bool.eq_false_iff.mpr c39
        subst c39
        replace H : (some false) = some r := by rw [if_neg (show ¬ (false = true) by decide)] at H; exact H
        exact absurd (H.trans (congrArg some htrue.out)) (by decide)
      ·replace c36 := Bool.eq_false_iff.mpr c36
       subst c36
       replace H : (some false) = some r := by rw [if_neg (show ¬ (false = true) by decide)] at H; exact H
       exact absurd (H.trans (congrArg some htrue.out)) (by decide)

end Go.Proofs.YtgblginphicacaaDoor.PFnExactFirstFlips
