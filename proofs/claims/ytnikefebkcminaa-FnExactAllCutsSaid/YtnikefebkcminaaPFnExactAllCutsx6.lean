-- WRITTEN BY A PROGRAM OF THIS WORK (wip/tools/ppatch.py) for this claim.
import Derived.Test.YtnikefebkcminaaPFnExactAllCutsx0
import Derived.Test.YtnikefebkcminaaPFnExactAllCutsx3
import Derived.Test.YtnikefebkcminaaPFnExactAllCutsx4
import Derived.Test.YtnikefebkcminaaPFnExactAllCutsx5
namespace Go.Proofs.Ytnikefebkcminaa.PFnExactAllCuts
open Go.RowKit Go.Proofs.YtnikefebkcminaaW.PrintWords Go.Proofs.YtnikefebkcminaaW.PrintLast Go.Proofs.YtnikefebkcminaaW.PrintMore
attribute [local go_sem] max2_int min2_int max_two min_two max_three min_three max_four min_four   -- for this text's walks alone
set_option linter.unusedVariables false
set_option linter.unusedSimpArgs false

/-! ### laws_markDiagonalSS: function 44 -/
/-- The marks of the rows, one after the other. -/
def laws_markDiagonalSS.l0 : Nat → List (List S72) → Int → Int → Option (Int × List (List S72))
 | 0, _, _, _ => none
 | k + 1, x0, x1, x5 => if x5 < (x0.length : Int) then (if 0 ≤ x5 then ((laws_markDiagonalS.f k (x0.getD x5.toNat ([] : List S72)) x1).bind fun bt => (laws_markDiagonalSS.l0 k (x0.set x5.toNat bt.2) bt.1 (wrap64 (x5 + 1)))) else (none)) else (some (x1, x0))
def laws_markDiagonalSS.f (k : Nat) (l0 : List (List S72)) (a1 : Int) : Option (Int × List (List S72)) := laws_markDiagonalSS.l0 k l0 a1 0
theorem laws_markDiagonalSS.mono_l : ∀ k, ∀ y0 y1 y2, LeO (laws_markDiagonalSS.l0 k y0 y1 y2) (laws_markDiagonalSS.l0 (k + 1) y0 y1 y2)
 | 0 => fun _ _ _ r h => by simp [laws_markDiagonalSS.l0] at h
 | k + 1 => by
  have ih0 := laws_markDiagonalSS.mono_l k
  intro y0 y1 y2
  unfold laws_markDiagonalSS.l0
  refine LeO.ite ?_ (LeO.refl _)
  refine LeO.ite ?_ (LeO.refl _)
  exact LeO.bind (laws_markDiagonalS.mono _ _ _) (fun _ => ih0 _ _ _)
theorem laws_markDiagonalSS.mono : ∀ a0 a1 k, LeO (laws_markDiagonalSS.f k a0 a1) (laws_markDiagonalSS.f (k + 1) a0 a1) := by
 intro a0 a1 k
 exact laws_markDiagonalSS.mono_l k _ _ _
theorem laws_markDiagonalSS.back {W w1 : World} {base : Nat} {ok oki : Nat → Prop} {v u : Value} {xs : List (List S72)} {i : Int} {t : List S72} (hH : Kd.H (Kd.slice 72 k72) 30 W base ok u xs i oki [v]) (hk : Kept W w1 oki)
  (hR : Kd.R k72 72 w1 base (fun k => oki k ∨ W.heap.size ≤ k) v t) (hok : ∀ k, W.heap.size ≤ k → ok k) : Kd.S (Kd.slice 72 k72) 30 w1 base ok u (xs.set i.toNat t) := by
 have h1 := Kd.H_widen hH
 have h2 := Kd.H_kept h1 hk (fun k _ hn ho => hn (Or.inl ho))
 exact Kd.H_back h2 (okp := fun k => oki k ∨ W.heap.size ≤ k) (x' := t) (Exists.intro v (And.intro rfl hR)) (fun k hk2 => hk2.elim (fun h => Or.inl h) (fun h => Or.inr ⟨hok k h, h⟩))
set_option maxHeartbeats 8000000 in
set_option maxRecDepth 100000 in
theorem laws_markDiagonalSS.calls (k : Nat) (P0_ : Nat → Prop) (u9000_ : Value) (l0 : List (List S72)) (a1 : Int) (r1 : Int) (r2 : List (List S72)) (w0 w : World) (hB : Below w0.heap.size w0 w) (ho0 : Kd.S (Kd.slice 72 k72) 30 w w0.heap.size P0_ u9000_ l0) (h : laws_markDiagonalSS.f k l0 a1 = some (r1, r2)) :
  Calls Try.prog 44 #[u9000_, .int .i64 a1] w fun e w' => e = .returned (.int .i64 r1) ∧ Kd.S (Kd.slice 72 k72) 30 w' w0.heap.size (fun k_ => (P0_ k_ ∨ w.heap.size ≤ k_)) u9000_ r2 ∧ Below w0.heap.size w0 w' ∧ Kept w w' (fun k_ => P0_ k_) := by
 obtain ⟨A, c, rfl⟩ := Kd.S_slice ho0
 have HO := Aside0.mk (show Kd.S (Kd.slice 72 k72) 30 w w0.heap.size (fun k_ => (P0_ k_ ∨ w.heap.size ≤ k_)) (.slice A l0.length c) l0 from Kd.S_mono ho0 (fun k_ hk => (.inl hk)))
 have HB := Aside0.mk hB
 clear hB ho0
 have H' := Aside0.mk (show laws_markDiagonalSS.l0 k l0 a1 0 = some (r1, r2) from h)
 clear h
 obtain ⟨n, hn⟩ : ∃ n : Nat, n = l0.length := ⟨_, rfl⟩
 rw [← hn] at HO ⊢
 have HN := Aside0.mk hn
 clear hn
 go_enter Try.func44, Try.ntmps44
 go_wp2
 go_loopg [1, 5] k (fun kq v1 v5 w' => ∃ (xs : List (List S72)) (x1_1 : Int) (x5_1 : Int), v1 = .int .i64 x1_1 ∧ v5 = .int .i64 x5_1 ∧ Aside0 (laws_markDiagonalSS.l0 kq xs x1_1 x5_1 = some (r1, r2)) ∧ Aside0 (kq ≤ k) ∧ Aside0 (xs.length = n) ∧ Aside0 (Kd.S (Kd.slice 72 k72) 30 w' w0.heap.size (fun k_ => (P0_ k_ ∨ w.heap.size ≤ k_)) (.slice A n c) xs) ∧ Aside0 (Below w0.heap.size w0 w') ∧ Aside0 (Kept w w' (fun k_ => P0_ k_)))
 case atStart => exact ⟨l0, (a1), (0), (by first | rfl | (simp; done)), (by first | rfl | (simp; done)), H', ⟨Nat.le_refl _⟩, ⟨HN.out.symm⟩, ⟨by (with_reducible repeat (first | apply Kd.S_alloc | apply Kd.S_drewN | apply Kd.S_drew)); exact HO.out⟩, ⟨by repeat (first | (with_reducible first | exact HB.out | apply below_alloc | apply pw_below_drewN | apply below_drew1) | exact HB.out)⟩, ⟨by (with_reducible repeat (first | apply Kept.alloc | apply Kept.drewN | apply Kept.drew)); exact Kept.refl _ _⟩⟩
 case round =>
  clear H' HO HB HN
  obtain ⟨xs, x1_1, x5_1, rfl, rfl, HA, HK1, HL, HO, HB, HKp⟩ := hrel
  cases gk with
  | zero => exact absurd HA.out (by simp [laws_markDiagonalSS.l0])
  | succ k1 =>
   have H := HA.out
   clear HA
   simp only [laws_markDiagonalSS.l0] at H
   rw [HL.out] at H
   by_cases c3 : x5_1 < (n : Int)
   ·rw [if_pos c3] at H
    by_cases c4 : 0 ≤ x5_1
    ·rw [if_pos c4] at H
     replace H := Option.bind_eq_some_iff.mp H
     obtain ⟨⟨t1, t2⟩, A50, H⟩ := H
     have A5 := Aside0.mk A50
     clear A50
     have H' := Aside0.mk (show laws_markDiagonalSS.l0 k1 (xs.set x5_1.toNat t2) t1 (wrap64 (x5_1 + 1)) = some (r1, r2) from H)
     clear H
     obtain ⟨ad, rfl⟩ : ∃ ad, A = some ad := by
      have hr := Kd.S_reads' HO.out
      obtain ⟨ad, e, _⟩ := hr.2.2.2.2 (by have := HL.out; omega)
      exact ⟨ad, e⟩
     obtain ⟨g, rfl⟩ := Kd.R_head (Kd.S_R HO.out)
     obtain ⟨oki, cs, hcl, hM, hcell, hoki, hH⟩ := Kd.S_lend HO.out ([] : List S72) x5_1 c4 c3
     obtain ⟨v, rfl, hR⟩ := hM
     have hx := hcell 0 v rfl
     rw [Nat.add_zero, show (Kd.slice 72 k72).sz = 1 from rfl, Nat.mul_one] at hx
     have hadd : (⟨g, 0, none⟩ : Addr).add x5_1.toNat = ⟨g, x5_1.toNat, none⟩ := by rw [add_at, Nat.zero_add]
     have HR := Aside0.mk hR
     have HH := Aside0.mk hH
     have HOK := Aside0.mk hoki
     clear hR hH hoki hcell hcl HO
     have c3b0 : decide (x5_1 < (n : Int)) = true := decide_eq_true c3
     have p331 := eq_true c4
     have q331 := eq_true c3
     clear c3 c4
     go_wp2_with ((with_reducible refine gate_callee (f := 23) rfl ?_); refine goesL_ (some 17) rfl rfl Try.func23 (by kernel_rfl) rfl #[v, .int .i64 x1_1] rfl (by (try simp only [List.map_toArray, List.map_cons, List.map_nil]); first | done | rfl) ?_; (with_reducible refine (laws_markDiagonalS.calls k1 oki v (xs.getD x5_1.toNat ([] : List S72)) x1_1 t1 t2 w0 _ ?side1 ?side2 A5.out).mono ?_); (case side1 => exact blw_); (case side2 => (with_reducible repeat (first | apply Kd.R_alloc | apply Kd.R_drewN | apply Kd.R_drew)); exact HR.out); rintro e w41 ⟨rfl, hy0, hb, hkp⟩; refine ⟨_, rfl, ?_⟩; have nk_ := Aside0.mk (Kept.then_ (by (with_reducible repeat (first | apply Kept.alloc | apply Kept.drewN | apply Kept.drew)); exact HKp.out) hkp (fun k_ ho_ => (HOK.out k_ ho_).1)); have n0_ := Aside0.mk (laws_markDiagonalSS.back (by (with_reducible repeat (first | apply Kd.H_alloc | apply Kd.H_drewN | apply Kd.H_drew)); exact HH.out) hkp hy0 (fun k_ h_ => Or.inr (Nat.le_trans HKp.out.1 h_))); have n1_ := Aside0.mk hb; clear HKp HB HH HR HOK hkp hb hy0; have HKp := nk_; have HO := n0_; have HB := n1_; clear nk_ n0_ n1_)
     go_roundg k1
     case measure => have := HK1.out; omega
     case rel => exact ⟨_, t1, (wrap64 (x5_1 + 1)), (by first | rfl | (simp; done)), (by first | rfl | (simp; done)), H', ⟨by have := HK1.out; omega⟩, ⟨by rw [List.length_set]; exact HL.out⟩, ⟨by (with_reducible repeat (first | apply Kd.S_alloc | apply Kd.S_drewN | apply Kd.S_drew)); exact HO.out⟩, ⟨blw_⟩, ⟨by (with_reducible repeat (first | apply Kept.alloc | apply Kept.drewN | apply Kept.drew)); exact HKp.out⟩⟩
    ·rw [if_neg c4] at H
     exact absurd H (by simp)
   ·rw [if_neg c3] at H
    have c3b0 : decide (x5_1 < (n : Int)) = false := decide_eq_false c3
    clear c3
    simp only [Option.some.injEq, Prod.mk.injEq] at H
    obtain ⟨rfl, rfl⟩ := H
    go_wp2
    go_ret
    exact ⟨by first | rfl | (simp; done), by (with_reducible repeat (first | apply Kd.S_alloc | apply Kd.S_drewN | apply Kd.S_drew)); exact HO.out, by repeat (first | (with_reducible first | exact HB.out | apply below_alloc | apply pw_below_drewN | apply below_drew1) | exact HB.out), by (with_reducible repeat (first | apply Kept.alloc | apply Kept.drewN | apply Kept.drew)); exact HKp.out⟩

/-! ### laws_heldDiagonalS: function 24 -/
def laws_heldDiagonalS.l0 : Nat → List (S72) → Int → Int → Option (Int)
 | 0, _, _, _ => none
 | k + 1, x0, x1, x5 => if x5 < (x0.length : Int) then (if 0 ≤ x5 then (if ((rd_T72 x0 x5).f0) = x1 then (if ((rd_T72 x0 x5).f1) = (wrap64 (x1 + 1)) then (laws_heldDiagonalS.l0 k x0 (wrap64 ((wrap64 (x1 + 1)) + 1)) (wrap64 (x5 + 1))) else (some (-1))) else (some (-1))) else (none)) else (some x1)
def laws_heldDiagonalS.f (k : Nat) (l0 : List (S72)) (a1 : Int) : Option (Int) := laws_heldDiagonalS.l0 k l0 a1 0
theorem laws_heldDiagonalS.mono_l : ∀ k, (∀ y0 y1 y2, LeO (laws_heldDiagonalS.l0 k y0 y1 y2) (laws_heldDiagonalS.l0 (k + 1) y0 y1 y2))
 | 0 => fun _ _ _ r h => by simp [laws_heldDiagonalS.l0] at h
 | k + 1 => by
  have ih0 := laws_heldDiagonalS.mono_l k
  ·intro y0 y1 y2
   unfold laws_heldDiagonalS.l0
   repeat' first
   | (with_reducible exact ih0 _ _ _)
   | (with_reducible exact LeO.refl _)
   | (with_reducible exact LeO.none _)
   | (with_reducible refine LeO.ite ?_ ?_)
   | (with_reducible refine LeO.bind ?_ (fun _ => ?_))
   | exact ih0 _ _ _
   | exact LeO.none _
   | refine LeO.ite ?_ ?_
   | refine LeO.bind ?_ (fun _ => ?_)
theorem laws_heldDiagonalS.mono : ∀ a0 a1 k, LeO (laws_heldDiagonalS.f k a0 a1) (laws_heldDiagonalS.f (k + 1) a0 a1) := by
 intro a0 a1 k
 have ih0 := laws_heldDiagonalS.mono_l k
 unfold laws_heldDiagonalS.f
 repeat' first
   | (with_reducible exact ih0 _ _ _)
   | (with_reducible exact LeO.refl _)
   | (with_reducible exact LeO.none _)
   | (with_reducible refine LeO.ite ?_ ?_)
   | (with_reducible refine LeO.bind ?_ (fun _ => ?_))
   | exact ih0 _ _ _
   | exact LeO.none _
   | refine LeO.ite ?_ ?_
   | refine LeO.bind ?_ (fun _ => ?_)
set_option maxHeartbeats 8000000 in
set_option maxRecDepth 100000 in
theorem laws_heldDiagonalS.calls (k : Nat) (A0 : Option Addr) (c0 : Nat) (l0 : List (S72)) (a1 : Int) (r : Int) (w : World) (hr0 : Kd.C k72 w A0 l0.length l0) (hc0 : l0.length ≤ c0) (h : laws_heldDiagonalS.f k l0 a1 = some r) :
  Calls Try.prog 24 #[.slice A0 l0.length c0, .int .i64 a1] w fun e w' => e = .returned (.int .i64 r) ∧ Drawn0 w w' := by
 have HR0 := Aside0.mk hr0
 have HC0 := Aside0.mk hc0
 clear hr0 hc0
 have H : (laws_heldDiagonalS.l0 k l0 a1 0) = some r := h
 clear h
 have H' := Aside0.mk H
 clear H
 go_enter Try.func24, Try.ntmps24
 go_wp2
 go_loopg [1, 5] k (fun kq v1 v5 w' => ∃ (x1_1 : Int) (x5_1 : Int), v1 = .int .i64 x1_1 ∧ v5 = .int .i64 x5_1 ∧ Aside0 (laws_heldDiagonalS.l0 kq l0 x1_1 x5_1 = some r) ∧ Aside0 (kq ≤ k) ∧ Drawn0 w w')
 case atStart => exact ⟨(a1), (0), (by first | rfl | (simp; done) | (simp [*]; done)), (by first | rfl | (simp; done) | (simp [*]; done)), H', ⟨Nat.le_refl _⟩, by repeat (first | exact Drawn0.refl _ | apply Drawn0.step)⟩
 case round =>
  clear H'
  try clear c2
  try clear p2
  obtain ⟨x1_1, x5_1, rfl, rfl, HA, HK1, ⟨m1, rfl⟩⟩ := hrel
  cases gk with
  | zero => exact absurd HA.out (by simp [laws_heldDiagonalS.l0])
  | succ k1 =>
   have H := HA.out
   clear HA
   simp only [laws_heldDiagonalS.l0] at H
   by_cases c3 : x5_1 < (l0.length : Int)
   ·rw [if_pos c3] at H
    have c3b0 : decide (x5_1 < (l0.length : Int)) = true := decide_eq_true c3
    clear c3
    by_cases c4 : 0 ≤ x5_1
    ·rw [if_pos c4] at H
     have c4b0 : decide (0 ≤ x5_1) = true := decide_eq_true c4
     clear c4
     by_cases c5 : ((rd_T72 l0 x5_1).f0) = x1_1
     ·rw [if_pos c5] at H
      have c5b0 : (((rd_T72 l0 x5_1).f0) == x1_1) = true := beq_iff_eq.mpr c5
      have c5b1 : (((rd_T72 l0 x5_1).f0) != x1_1) = false := bne_eq_false_iff_eq.mpr c5
      clear c5
      by_cases c6 : ((rd_T72 l0 x5_1).f1) = (wrap64 (x1_1 + 1))
      ·rw [if_pos c6] at H
       have c6b0 : (((rd_T72 l0 x5_1).f1) == (wrap64 (x1_1 + 1))) = true := beq_iff_eq.mpr c6
       have c6b1 : (((rd_T72 l0 x5_1).f1) != (wrap64 (x1_1 + 1))) = false := bne_eq_false_iff_eq.mpr c6
       clear c6
       have H' := Aside0.mk H
       clear H
       have p137 : 0 ≤ (x5_1 : Int) := odt_
       have q137 : x5_1 < (l0.length : Int) := odt_
       obtain ⟨ad137, e137, hx137_0, hx137_1⟩ := at_T72 HR0.out x5_1 p137 q137
       cases e137
       replace p137 := eq_true p137
       replace q137 := eq_true q137
       have p138 : 0 ≤ (x5_1 : Int) := odt_
       have q138 : x5_1 < (l0.length : Int) := odt_
       obtain ⟨ad138, e138, hx138_0, hx138_1⟩ := at_T72 HR0.out x5_1 p138 q138
       obtain rfl : ad137 = ad138 := (by injection e138)
       replace p138 := eq_true p138
       replace q138 := eq_true q138
       go_wp2
       go_roundg k1
       case measure => have := HK1.out; omega
       case rel => exact ⟨(wrap64 ((wrap64 (x1_1 + 1)) + 1)), (wrap64 (x5_1 + 1)), (by first | rfl | (simp; done) | (simp [*]; done)), (by first | rfl | (simp; done) | (simp [*]; done)), H', ⟨by have := HK1.out; omega⟩, by repeat (first | exact Drawn0.refl _ | apply Drawn0.step)⟩
      ·rw [if_neg c6] at H
       have c6b0 : (((rd_T72 l0 x5_1).f1) == (wrap64 (x1_1 + 1))) = false := beq_eq_false_iff_ne.mpr c6
       have c6b1 : (((rd_T72 l0 x5_1).f1) != (wrap64 (x1_1 + 1))) = true := bne_iff_ne.mpr c6
       obtain rfl := Option.some.inj H
       have p137 : 0 ≤ (x5_1 : Int) := odt_
       have q137 : x5_1 < (l0.length : Int) := odt_
       obtain ⟨ad137, e137, hx137_0, hx137_1⟩ := at_T72 HR0.out x5_1 p137 q137
       cases e137
       replace p137 := eq_true p137
       replace q137 := eq_true q137
       have p138 : 0 ≤ (x5_1 : Int) := odt_
       have q138 : x5_1 < (l0.length : Int) := odt_
       obtain ⟨ad138, e138, hx138_0, hx138_1⟩ := at_T72 HR0.out x5_1 p138 q138
       obtain rfl : ad137 = ad138 := (by injection e138)
       replace p138 := eq_true p138
       replace q138 := eq_true q138
       go_wp2
       go_ret
       exact ⟨by first | rfl | (simp; done) | (simp [*]; done), by repeat (first | exact Drawn0.refl _ | apply Drawn0.step)⟩
     ·rw [if_neg c5] at H
      have c5b0 : (((rd_T72 l0 x5_1).f0) == x1_1) = false := beq_eq_false_iff_ne.mpr c5
      have c5b1 : (((rd_T72 l0 x5_1).f0) != x1_1) = true := bne_iff_ne.mpr c5
      obtain rfl := Option.some.inj H
      have p137 : 0 ≤ (x5_1 : Int) := odt_
      have q137 : x5_1 < (l0.length : Int) := odt_
      obtain ⟨ad137, e137, hx137_0, hx137_1⟩ := at_T72 HR0.out x5_1 p137 q137
      cases e137
      replace p137 := eq_true p137
      replace q137 := eq_true q137
      go_wp2
      go_ret
      exact ⟨by first | rfl | (simp; done) | (simp [*]; done), by repeat (first | exact Drawn0.refl _ | apply Drawn0.step)⟩
    ·rw [if_neg c4] at H
     exact absurd H (by simp)
   ·rw [if_neg c3] at H
    have c3b0 : decide (x5_1 < (l0.length : Int)) = false := decide_eq_false c3
    clear c3
    obtain rfl := Option.some.inj H
    go_wp2
    go_ret
    exact ⟨by first | rfl | (simp; done) | (simp [*]; done), by repeat (first | exact Drawn0.refl _ | apply Drawn0.step)⟩

/-! ### laws_heldDiagonalSS: function 45 -/
def laws_heldDiagonalSS.l0 : Nat → List (List (S72)) → Int → Int → Option (Int)
 | 0, _, _, _ => none
 | k + 1, x0, x1, x5 => if x5 < (x0.length : Int) then (if 0 ≤ x5 then ((laws_heldDiagonalS.f k (rd_L2 x0 x5) x1).bind fun t140 => (if t140 < 0 then (some (-1)) else (laws_heldDiagonalSS.l0 k x0 t140 (wrap64 (x5 + 1))))) else (none)) else (some x1)
def laws_heldDiagonalSS.f (k : Nat) (l0 : List (List (S72))) (a1 : Int) : Option (Int) := laws_heldDiagonalSS.l0 k l0 a1 0
theorem laws_heldDiagonalSS.mono_l : ∀ k, (∀ y0 y1 y2, LeO (laws_heldDiagonalSS.l0 k y0 y1 y2) (laws_heldDiagonalSS.l0 (k + 1) y0 y1 y2))
 | 0 => fun _ _ _ r h => by simp [laws_heldDiagonalSS.l0] at h
 | k + 1 => by
  have ih0 := laws_heldDiagonalSS.mono_l k
  ·intro y0 y1 y2
   unfold laws_heldDiagonalSS.l0
   repeat' first
   | (with_reducible exact ih0 _ _ _)
   | (with_reducible exact laws_heldDiagonalS.mono _ _ _)
   | (with_reducible exact LeO.refl _)
   | (with_reducible exact LeO.none _)
   | (with_reducible refine LeO.ite ?_ ?_)
   | (with_reducible refine LeO.bind ?_ (fun _ => ?_))
   | exact ih0 _ _ _
   | exact laws_heldDiagonalS.mono _ _ _
   | exact LeO.none _
   | refine LeO.ite ?_ ?_
   | refine LeO.bind ?_ (fun _ => ?_)
theorem laws_heldDiagonalSS.mono : ∀ a0 a1 k, LeO (laws_heldDiagonalSS.f k a0 a1) (laws_heldDiagonalSS.f (k + 1) a0 a1) := by
 intro a0 a1 k
 have ih0 := laws_heldDiagonalSS.mono_l k
 unfold laws_heldDiagonalSS.f
 repeat' first
   | (with_reducible exact ih0 _ _ _)
   | (with_reducible exact laws_heldDiagonalS.mono _ _ _)
   | (with_reducible exact LeO.refl _)
   | (with_reducible exact LeO.none _)
   | (with_reducible refine LeO.ite ?_ ?_)
   | (with_reducible refine LeO.bind ?_ (fun _ => ?_))
   | exact ih0 _ _ _
   | exact laws_heldDiagonalS.mono _ _ _
   | exact LeO.none _
   | refine LeO.ite ?_ ?_
   | refine LeO.bind ?_ (fun _ => ?_)
set_option maxHeartbeats 8000000 in
set_option maxRecDepth 100000 in
theorem laws_heldDiagonalSS.calls (k : Nat) (A0 : Option Addr) (c0 : Nat) (l0 : List (List (S72))) (a1 : Int) (r : Int) (w : World) (hr0 : Kd.C (Kd.slice 72 k72) w A0 l0.length l0) (hc0 : l0.length ≤ c0) (h : laws_heldDiagonalSS.f k l0 a1 = some r) :
  Calls Try.prog 45 #[.slice A0 l0.length c0, .int .i64 a1] w fun e w' => e = .returned (.int .i64 r) ∧ Drawn0 w w' := by
 have HR0 := Aside0.mk hr0
 have HC0 := Aside0.mk hc0
 clear hr0 hc0
 have H : (laws_heldDiagonalSS.l0 k l0 a1 0) = some r := h
 clear h
 have H' := Aside0.mk H
 clear H
 go_enter Try.func45, Try.ntmps45
 go_wp2
 go_loopg [1, 5] k (fun kq v1 v5 w' => ∃ (x1_1 : Int) (x5_1 : Int), v1 = .int .i64 x1_1 ∧ v5 = .int .i64 x5_1 ∧ Aside0 (laws_heldDiagonalSS.l0 kq l0 x1_1 x5_1 = some r) ∧ Aside0 (kq ≤ k) ∧ Drawn0 w w')
 case atStart => exact ⟨(a1), (0), (by first | rfl | (simp; done) | (simp [*]; done)), (by first | rfl | (simp; done) | (simp [*]; done)), H', ⟨Nat.le_refl _⟩, by repeat (first | exact Drawn0.refl _ | apply Drawn0.step)⟩
 case round =>
  clear H'
  try clear p2
  obtain ⟨x1_1, x5_1, rfl, rfl, HA, HK1, ⟨m1, rfl⟩⟩ := hrel
  cases gk with
  | zero => exact absurd HA.out (by simp [laws_heldDiagonalSS.l0])
  | succ k1 =>
   have H := HA.out
   clear HA
   simp only [laws_heldDiagonalSS.l0] at H
   by_cases c3 : x5_1 < (l0.length : Int)
   ·rw [if_pos c3] at H
    have c3b0 : decide (x5_1 < (l0.length : Int)) = true := decide_eq_true c3
    clear c3
    by_cases c4 : 0 ≤ x5_1
    ·rw [if_pos c4] at H
     have c4b0 : decide (0 ≤ x5_1) = true := decide_eq_true c4
     clear c4
     replace H := Option.bind_eq_some_iff.mp H
     obtain ⟨t140, A50, H⟩ := H
     replace H : (if t140 < 0 then (some (-1)) else (laws_heldDiagonalSS.l0 k1 l0 t140 (wrap64 (x5_1 + 1)))) = some r := H
     have A5 := Aside0.mk A50
     clear A50
     by_cases c6 : t140 < 0
     ·rw [if_pos c6] at H
      have c6b0 : decide (t140 < 0) = true := decide_eq_true c6
      clear c6
      obtain rfl := Option.some.inj H
      have p139 : 0 ≤ (x5_1 : Int) := odt_
      have q139 : x5_1 < (l0.length : Int) := odt_
      obtain ⟨ad139, A139_0, c139_0, e139, hx139_0, hl139_0, hi139_0⟩ := at_L2 HR0.out x5_1 p139 q139
      cases e139
      have HR139_0 := Aside0.mk hi139_0
      have HC139_0 := Aside0.mk hl139_0
      clear hi139_0 hl139_0
      replace p139 := eq_true p139
      replace q139 := eq_true q139
      go_wp2_with (first | ((with_reducible refine gate_callee (f := 24) rfl ?_); refine goesL_ (some 17) rfl rfl Try.func24 (by kernel_rfl) rfl #[.slice A139_0 (rd_L2 l0 x5_1).length c139_0, .int .i64 x1_1] rfl amp_ ?_; (with_reducible refine (laws_heldDiagonalS.calls k1 _ _ (rd_L2 l0 x5_1) x1_1 t140 _ ?side1 ?side2 A5.out).mono ?_); (case side1 => repeat (first | exact HR139_0.out | (with_reducible refine Kd.C_alloc ?_ _) | (with_reducible refine Kd.C_drewN ?_ _) | (with_reducible refine Kd.C_drew ?_))); (case side2 => exact HC139_0.out); rintro e w' ⟨rfl, ⟨nd, rfl⟩⟩; refine ⟨_, rfl, ?_⟩))
      go_ret
      exact ⟨by first | rfl | (simp; done) | (simp [*]; done), by repeat (first | exact Drawn0.refl _ | apply Drawn0.step)⟩
     ·rw [if_neg c6] at H
      have c6b0 : decide (t140 < 0) = false := decide_eq_false c6
      clear c6
      have H' := Aside0.mk H
      clear H
      have p139 : 0 ≤ (x5_1 : Int) := odt_
      have q139 : x5_1 < (l0.length : Int) := odt_
      obtain ⟨ad139, A139_0, c139_0, e139, hx139_0, hl139_0, hi139_0⟩ := at_L2 HR0.out x5_1 p139 q139
      cases e139
      have HR139_0 := Aside0.mk hi139_0
      have HC139_0 := Aside0.mk hl139_0
      clear hi139_0 hl139_0
      replace p139 := eq_true p139
      replace q139 := eq_true q139
      go_wp2_with (first | ((with_reducible refine gate_callee (f := 24) rfl ?_); refine goesL_ (some 17) rfl rfl Try.func24 (by kernel_rfl) rfl #[.slice A139_0 (rd_L2 l0 x5_1).length c139_0, .int .i64 x1_1] rfl amp_ ?_; (with_reducible refine (laws_heldDiagonalS.calls k1 _ _ (rd_L2 l0 x5_1) x1_1 t140 _ ?side1 ?side2 A5.out).mono ?_); (case side1 => repeat (first | exact HR139_0.out | (with_reducible refine Kd.C_alloc ?_ _) | (with_reducible refine Kd.C_drewN ?_ _) | (with_reducible refine Kd.C_drew ?_))); (case side2 => exact HC139_0.out); rintro e w' ⟨rfl, ⟨nd, rfl⟩⟩; refine ⟨_, rfl, ?_⟩))
      go_roundg k1
      case measure => have := HK1.out; omega
      case rel => exact ⟨(t140), (wrap64 (x5_1 + 1)), (by first | rfl | (simp; done) | (simp [*]; done)), (by first | rfl | (simp; done) | (simp [*]; done)), H', ⟨by have := HK1.out; omega⟩, by repeat (first | exact Drawn0.refl _ | apply Drawn0.step)⟩
    ·rw [if_neg c4] at H
     exact absurd H (by simp)
   ·rw [if_neg c3] at H
    have c3b0 : decide (x5_1 < (l0.length : Int)) = false := decide_eq_false c3
    clear c3
    obtain rfl := Option.some.inj H
    go_wp2
    go_ret
    exact ⟨by first | rfl | (simp; done) | (simp [*]; done), by repeat (first | exact Drawn0.refl _ | apply Drawn0.step)⟩

/-! ### laws_FnExactAllCuts: function 11 -/
mutual
def laws_FnExactAllCuts.j0 : Nat → Int → Int → List (List (S72)) → Bool → List (List (S72)) → Bool → Option (Bool)
 | 0, _, _, _, _, _, _ => none
 | k + 1, x0, x1, x5, x6, x7, x33 => if x33 = true then (some false) else ((laws_markDiagonalSS.f k x7 1).bind fun bt150 => ((laws_heldDiagonalSS.f k bt150.2 1).bind fun t152 => (if t152 < 0 then (some false) else (if t152 = bt150.1 then ((impl_AllCuts.f k x0 x1).bind fun bt153 => ((laws_eqDiagonalSS.f k bt153.1 x5).bind fun t157 => (if t157 = true then (laws_FnExactAllCuts.j1 k bt150.2 bt150.1 (bt153.2 != x6)) else (laws_FnExactAllCuts.j1 k bt150.2 bt150.1 true)))) else (some false)))))
def laws_FnExactAllCuts.j1 : Nat → List (List (S72)) → Int → Bool → Option (Bool)
 | 0, _, _, _ => none
 | k + 1, x7, x9, x59 => if x59 = true then (some false) else ((laws_heldDiagonalSS.f k x7 1).bind fun t158 => (if t158 < 0 then (some false) else (if t158 = x9 then (some true) else (some false))))
end
def laws_FnExactAllCuts.f (k : Nat) (a0 : Int) (a1 : Int) : Option (Bool) := (spec_AllCuts.f a0 a1).bind fun bt141 => ((impl_AllCuts.f k a0 a1).bind fun bt145 => ((laws_eqDiagonalSS.f k bt145.1 bt141.1).bind fun t149 => (if t149 = true then (laws_FnExactAllCuts.j0 k a0 a1 bt141.1 bt141.2 bt145.1 (bt145.2 != bt141.2)) else (laws_FnExactAllCuts.j0 k a0 a1 bt141.1 bt141.2 bt145.1 true))))
theorem laws_FnExactAllCuts.mono_l : ∀ k, (∀ y0 y1 y2 y3 y4 y5, LeO (laws_FnExactAllCuts.j0 k y0 y1 y2 y3 y4 y5) (laws_FnExactAllCuts.j0 (k + 1) y0 y1 y2 y3 y4 y5)) ∧ (∀ y0 y1 y2, LeO (laws_FnExactAllCuts.j1 k y0 y1 y2) (laws_FnExactAllCuts.j1 (k + 1) y0 y1 y2))
 | 0 => ⟨fun _ _ _ _ _ _ r h => by simp [laws_FnExactAllCuts.j0] at h, fun _ _ _ r h => by simp [laws_FnExactAllCuts.j1] at h⟩
 | k + 1 => by
  obtain ⟨ih0, ih1⟩ := laws_FnExactAllCuts.mono_l k
  refine ⟨?_, ?_⟩
  ·intro y0 y1 y2 y3 y4 y5
   unfold laws_FnExactAllCuts.j0
   repeat' first
   | (with_reducible exact ih0 _ _ _ _ _ _)
   | (with_reducible exact ih1 _ _ _)
   | (with_reducible exact impl_AllCuts.mono _ _ _)
   | (with_reducible exact laws_eqDiagonalSS.mono _ _ _)
   | (with_reducible exact laws_heldDiagonalSS.mono _ _ _)
   | (with_reducible exact laws_markDiagonalSS.mono _ _ _)
   | (with_reducible exact LeO.refl _)
   | (with_reducible exact LeO.none _)
   | (with_reducible refine LeO.ite ?_ ?_)
   | (with_reducible refine LeO.bind ?_ (fun _ => ?_))
   | exact ih0 _ _ _ _ _ _
   | exact ih1 _ _ _
   | exact impl_AllCuts.mono _ _ _
   | exact laws_eqDiagonalSS.mono _ _ _
   | exact laws_heldDiagonalSS.mono _ _ _
   | exact laws_markDiagonalSS.mono _ _ _
   | exact LeO.none _
   | refine LeO.ite ?_ ?_
   | refine LeO.bind ?_ (fun _ => ?_)
  ·intro y0 y1 y2
   unfold laws_FnExactAllCuts.j1
   repeat' first
   | (with_reducible exact ih0 _ _ _ _ _ _)
   | (with_reducible exact ih1 _ _ _)
   | (with_reducible exact impl_AllCuts.mono _ _ _)
   | (with_reducible exact laws_eqDiagonalSS.mono _ _ _)
   | (with_reducible exact laws_heldDiagonalSS.mono _ _ _)
   | (with_reducible exact laws_markDiagonalSS.mono _ _ _)
   | (with_reducible exact LeO.refl _)
   | (with_reducible exact LeO.none _)
   | (with_reducible refine LeO.ite ?_ ?_)
   | (with_reducible refine LeO.bind ?_ (fun _ => ?_))
   | exact ih0 _ _ _ _ _ _
   | exact ih1 _ _ _
   | exact impl_AllCuts.mono _ _ _
   | exact laws_eqDiagonalSS.mono _ _ _
   | exact laws_heldDiagonalSS.mono _ _ _
   | exact laws_markDiagonalSS.mono _ _ _
   | exact LeO.none _
   | refine LeO.ite ?_ ?_
   | refine LeO.bind ?_ (fun _ => ?_)
theorem laws_FnExactAllCuts.mono : ∀ a0 a1 k, LeO (laws_FnExactAllCuts.f k a0 a1) (laws_FnExactAllCuts.f (k + 1) a0 a1) := by
 intro a0 a1 k
 obtain ⟨ih0, ih1⟩ := laws_FnExactAllCuts.mono_l k
 unfold laws_FnExactAllCuts.f
 repeat' first
   | (with_reducible exact ih0 _ _ _ _ _ _)
   | (with_reducible exact ih1 _ _ _)
   | (with_reducible exact impl_AllCuts.mono _ _ _)
   | (with_reducible exact laws_eqDiagonalSS.mono _ _ _)
   | (with_reducible exact laws_heldDiagonalSS.mono _ _ _)
   | (with_reducible exact laws_markDiagonalSS.mono _ _ _)
   | (with_reducible exact LeO.refl _)
   | (with_reducible exact LeO.none _)
   | (with_reducible refine LeO.ite ?_ ?_)
   | (with_reducible refine LeO.bind ?_ (fun _ => ?_))
   | exact ih0 _ _ _ _ _ _
   | exact ih1 _ _ _
   | exact impl_AllCuts.mono _ _ _
   | exact laws_eqDiagonalSS.mono _ _ _
   | exact laws_heldDiagonalSS.mono _ _ _
   | exact laws_markDiagonalSS.mono _ _ _
   | exact LeO.none _
   | refine LeO.ite ?_ ?_
   | refine LeO.bind ?_ (fun _ => ?_)
theorem ss_size {W w1 : World} (_ : Below W.heap.size W w1) : ∃ N : Nat, Aside0 (N = W.heap.size) := ⟨_, ⟨rfl⟩⟩
theorem ss_old {α : Type} {d : Kd α} {e base N : Nat} {ok : Nat → Prop} {u : Value} {xs : List α} {W w1 : World} (h : Kd.S d e W base ok u xs) (hb : Below W.heap.size W w1) (hN : Aside0 (N = W.heap.size)) : Kd.S d e w1 base (fun k => ok k ∧ k < N) u xs := by
 rw [hN.out]
 exact Kd.S_old h hb
theorem ss_new {α : Type} {d : Kd α} {e N : Nat} {ok : Nat → Prop} {u : Value} {xs : List α} {W w1 : World} (h : Kd.S d e w1 W.heap.size ok u xs) (hN : Aside0 (N = W.heap.size)) : Kd.S d e w1 W.heap.size (fun k => ok k ∧ N ≤ k) u xs :=
 Kd.S_mono (Kd.S_bound h) (fun k hk => ⟨hk.1, by rw [hN.out]; exact hk.2.1⟩)
set_option maxHeartbeats 8000000 in
set_option maxRecDepth 100000 in
theorem laws_FnExactAllCuts.calls (k : Nat) (a0 : Int) (a1 : Int) (r : Bool) (w : World) (h : laws_FnExactAllCuts.f k a0 a1 = some r) (htrue : Aside0 (r = true) := by exact ⟨rfl⟩) :
  Calls Try.prog 11 #[.int .i64 a0, .int .i64 a1] w fun e w' => e = .returned (.bool r) ∧ Below w.heap.size w w' := by
 have HB := Aside0.mk (Below.refl w.heap.size w)
 have H : ((spec_AllCuts.f a0 a1).bind fun bt141 => ((impl_AllCuts.f k a0 a1).bind fun bt145 => ((laws_eqDiagonalSS.f k bt145.1 bt141.1).bind fun t149 => (if t149 = true then (laws_FnExactAllCuts.j0 k a0 a1 bt141.1 bt141.2 bt145.1 (bt145.2 != bt141.2)) else (laws_FnExactAllCuts.j0 k a0 a1 bt141.1 bt141.2 bt145.1 true))))) = some r := h
 clear h
 replace H := Option.bind_eq_some_iff.mp H
 obtain ⟨⟨t141, t142⟩, A30, H⟩ := H
 replace H : ((impl_AllCuts.f k a0 a1).bind fun bt145 => ((laws_eqDiagonalSS.f k bt145.1 t141).bind fun t149 => (if t149 = true then (laws_FnExactAllCuts.j0 k a0 a1 t141 t142 bt145.1 (bt145.2 != t142)) else (laws_FnExactAllCuts.j0 k a0 a1 t141 t142 bt145.1 true)))) = some r := H
 have A3 := Aside0.mk A30
 clear A30
 replace H := Option.bind_eq_some_iff.mp H
 obtain ⟨⟨t145, t146⟩, A40, H⟩ := H
 replace H : ((laws_eqDiagonalSS.f k t145 t141).bind fun t149 => (if t149 = true then (laws_FnExactAllCuts.j0 k a0 a1 t141 t142 t145 (t146 != t142)) else (laws_FnExactAllCuts.j0 k a0 a1 t141 t142 t145 true))) = some r := H
 have A4 := Aside0.mk A40
 clear A40
 have HC5 := Aside0.mk H
 clear H
 go_enter Try.func11, Try.ntmps11
 go_upto_region 3 with (first | ((with_reducible refine gate_callee (f := 41) rfl ?_); refine goesL_ (some 16) rfl rfl Try.func41 (by kernel_rfl) rfl #[.int .i64 a0, .int .i64 a1] rfl amp_ ?_; (with_reducible refine (spec_AllCuts.calls a0 a1 t141 t142 _ A3.out).mono ?_); rintro e w6 ⟨v143, rfl, ho0, hb⟩; refine ⟨_, rfl, ?_⟩; have n0_ := Aside0.mk (Kd.S_lower ho0 (below_size blw_)); have n1_ := Aside0.mk (below_step blw_ hb); clear HB; have HO144 := n0_; have HB := n1_; clear n0_ n1_; (try clear hb); (try clear hb2); (try clear hk); (try clear hi); (try clear ho0)) | ((with_reducible refine gate_callee (f := 42) rfl ?_); refine goesL_ (some 22) rfl rfl Try.func42 (by kernel_rfl) rfl #[.int .i64 a0, .int .i64 a1] rfl amp_ ?_; (with_reducible refine (impl_AllCuts.calls k a0 a1 t145 t146 _ A4.out).mono ?_); rintro e w7 ⟨v147, rfl, ho0, hb⟩; refine ⟨_, rfl, ?_⟩; obtain ⟨N_, hN_⟩ := ss_size hb; have n0_ := Aside0.mk (ss_old (by (with_reducible repeat (first | apply Kd.S_alloc | apply Kd.S_drewN | apply Kd.S_drew)); exact HO144.out) hb hN_); have n1_ := Aside0.mk (Kd.S_lower (ss_new ho0 hN_) (below_size blw_)); have n2_ := Aside0.mk (below_step blw_ hb); clear HO144; clear HB; have HO144 := n0_; have HO148 := n1_; have HB := n2_; clear hN_ n0_ n1_ n2_; (try clear hb); (try clear hb2); (try clear hk); (try clear hi); (try clear ho0)))
 (try simp only [Act.put, List.setIfInBounds_toArray, List.set_cons_zero, List.set_cons_succ])
 go_cut [33] (fun v33 wc => ∃ (kq : Nat) (x33_4 : Bool), v33 = .bool x33_4 ∧ Aside0 (laws_FnExactAllCuts.j0 kq a0 a1 t141 t142 t145 x33_4 = some r) ∧ Aside0 (kq ≤ k) ∧ Aside0 (Kd.S (Kd.slice 72 k72) 30 wc w.heap.size (fun k_ => k_ < N_) v143 t141) ∧ Aside0 (Kd.S (Kd.slice 72 k72) 30 wc w.heap.size (fun k_ => N_ ≤ k_) v147 t145) ∧ Aside0 (Below w.heap.size w wc))
 case first =>
  have H := HC5.out
  clear HC5
  replace H := Option.bind_eq_some_iff.mp H
  obtain ⟨t149, A80, H⟩ := H
  replace H : (if t149 = true then (laws_FnExactAllCuts.j0 k a0 a1 t141 t142 t145 (t146 != t142)) else (laws_FnExactAllCuts.j0 k a0 a1 t141 t142 t145 true)) = some r := H
  have A8 := Aside0.mk A80
  clear A80
  by_cases c9 : t149 = true
  ·subst c9
   have H1 : (laws_FnExactAllCuts.j0 k a0 a1 t141 t142 t145 (t146 != t142)) = some r := by rw [if_pos rfl] at H; exact H
   clear H
   have H := H1
   clear H1
   have H' := Aside0.mk H
   clear H
   obtain ⟨Ao10, co10, eo10⟩ := Kd.S_slice HO148.out
   subst eo10
   obtain ⟨Ao11, co11, eo11⟩ := Kd.S_slice HO144.out
   subst eo11
   go_wp2_with (first | ((with_reducible refine gate_callee (f := 43) rfl ?_); refine goesL_ (some 27) rfl rfl Try.func43 (by kernel_rfl) rfl #[.slice Ao10 t145.length co10, .slice Ao11 t141.length co11] rfl amp_ ?_; (with_reducible refine (laws_eqDiagonalSS.calls k _ _ t145 _ _ t141 true _ ?side1 ?side2 ?side3 ?side4 A8.out).mono ?_); (case side1 => repeat (first | exact (Kd.S_reads' HO148.out).2.2 | (with_reducible refine Kd.C_alloc ?_ _) | (with_reducible refine Kd.C_drewN ?_ _) | (with_reducible refine Kd.C_drew ?_))); (case side2 => exact (Kd.S_reads' HO148.out).2.1); (case side3 => repeat (first | exact (Kd.S_reads' HO144.out).2.2 | (with_reducible refine Kd.C_alloc ?_ _) | (with_reducible refine Kd.C_drewN ?_ _) | (with_reducible refine Kd.C_drew ?_))); (case side4 => exact (Kd.S_reads' HO144.out).2.1); rintro e w12 ⟨rfl, hb⟩; refine ⟨_, rfl, ?_⟩; have n0_ := Aside0.mk (Kd.S_below (by (with_reducible repeat (first | apply Kd.S_alloc | apply Kd.S_drewN | apply Kd.S_drew)); exact HO144.out) hb); have n1_ := Aside0.mk (Kd.S_below (by (with_reducible repeat (first | apply Kd.S_alloc | apply Kd.S_drewN | apply Kd.S_drew)); exact HO148.out) hb); have n2_ := Aside0.mk (below_step blw_ hb); clear HO144; clear HO148; clear HB; have HO144 := n0_; have HO148 := n1_; have HB := n2_; clear n0_ n1_ n2_; (try clear hb); (try clear hb2); (try clear hk); (try clear hi)))
   go_meet
   case rel => exact ⟨_, ((t146 != t142)), (by first | rfl | (simp; done) | (simp [*]; done)), H', ⟨by first | omega | exact Nat.le_refl _⟩, ⟨by (with_reducible repeat (first | apply Kd.S_alloc | apply Kd.S_drewN | apply Kd.S_drew)); exact Kd.S_mono HO144.out (fun _ hk => hk.2)⟩, ⟨by (with_reducible repeat (first | apply Kd.S_alloc | apply Kd.S_drewN | apply Kd.S_drew)); exact Kd.S_mono HO148.out (fun _ hk => hk.2)⟩, ⟨by repeat (first | (with_reducible first | exact HB.out | apply below_alloc | apply pw_below_drewN | apply below_drew1) | exact HB.out)⟩⟩
  ·replace c9 := Bool.eq_false_iff.mpr c9
   subst c9
   have H1 : (laws_FnExactAllCuts.j0 k a0 a1 t141 t142 t145 true) = some r := by rw [if_neg (show ¬ (false = true) by decide)] at H; exact H
   clear H
   have H := H1
   clear H1
   have H' := Aside0.mk H
   clear H
   obtain ⟨Ao13, co13, eo13⟩ := Kd.S_slice HO148.out
   subst eo13
   obtain ⟨Ao14, co14, eo14⟩ := Kd.S_slice HO144.out
   subst eo14
   go_wp2_with (first | ((with_reducible refine gate_callee (f := 43) rfl ?_); refine goesL_ (some 27) rfl rfl Try.func43 (by kernel_rfl) rfl #[.slice Ao13 t145.length co13, .slice Ao14 t141.length co14] rfl amp_ ?_; (with_reducible refine (laws_eqDiagonalSS.calls k _ _ t145 _ _ t141 false _ ?side1 ?side2 ?side3 ?side4 A8.out).mono ?_); (case side1 => repeat (first | exact (Kd.S_reads' HO148.out).2.2 | (with_reducible refine Kd.C_alloc ?_ _) | (with_reducible refine Kd.C_drewN ?_ _) | (with_reducible refine Kd.C_drew ?_))); (case side2 => exact (Kd.S_reads' HO148.out).2.1); (case side3 => repeat (first | exact (Kd.S_reads' HO144.out).2.2 | (with_reducible refine Kd.C_alloc ?_ _) | (with_reducible refine Kd.C_drewN ?_ _) | (with_reducible refine Kd.C_drew ?_))); (case side4 => exact (Kd.S_reads' HO144.out).2.1); rintro e w15 ⟨rfl, hb⟩; refine ⟨_, rfl, ?_⟩; have n0_ := Aside0.mk (Kd.S_below (by (with_reducible repeat (first | apply Kd.S_alloc | apply Kd.S_drewN | apply Kd.S_drew)); exact HO144.out) hb); have n1_ := Aside0.mk (Kd.S_below (by (with_reducible repeat (first | apply Kd.S_alloc | apply Kd.S_drewN | apply Kd.S_drew)); exact HO148.out) hb); have n2_ := Aside0.mk (below_step blw_ hb); clear HO144; clear HO148; clear HB; have HO144 := n0_; have HO148 := n1_; have HB := n2_; clear n0_ n1_ n2_; (try clear hb); (try clear hb2); (try clear hk); (try clear hi)))
   go_meet
   case rel => exact ⟨_, (true), (by first | rfl | (simp; done) | (simp [*]; done)), H', ⟨by first | omega | exact Nat.le_refl _⟩, ⟨by (with_reducible repeat (first | apply Kd.S_alloc | apply Kd.S_drewN | apply Kd.S_drew)); exact Kd.S_mono HO144.out (fun _ hk => hk.2)⟩, ⟨by (with_reducible repeat (first | apply Kd.S_alloc | apply Kd.S_drewN | apply Kd.S_drew)); exact Kd.S_mono HO148.out (fun _ hk => hk.2)⟩, ⟨by repeat (first | (with_reducible first | exact HB.out | apply below_alloc | apply pw_below_drewN | apply below_drew1) | exact HB.out)⟩⟩
 case rest =>
  clear HC5
  try clear c1
  try clear p2
  try clear c4
  try clear c9
  try clear c11
  obtain ⟨kq, x33_4, rfl, HA, HJ4, HO_5, HO_7, HB⟩ := hcut
  cases kq with
  | zero => exact absurd HA.out (by simp [laws_FnExactAllCuts.j0])
  | succ kj4 =>
   have H := HA.out
   clear HA
   simp only [laws_FnExactAllCuts.j0] at H
   by_cases c16 : x33_4 = true
   ·subst c16
    have H1 : (some false) = some r := by rw [if_pos rfl] at H; exact H
    clear H
    have H := H1
    clear H1
    exact absurd (H.trans (congrArg some htrue.out)) (by decide)
   ·replace c16 := Bool.eq_false_iff.mpr c16
    subst c16
    have H1 : ((laws_markDiagonalSS.f kj4 t145 1).bind fun bt150 => ((laws_heldDiagonalSS.f kj4 bt150.2 1).bind fun t152 => (if t152 < 0 then (some false) else (if t152 = bt150.1 then ((impl_AllCuts.f kj4 a0 a1).bind fun bt153 => ((laws_eqDiagonalSS.f kj4 bt153.1 t141).bind fun t157 => (if t157 = true then (laws_FnExactAllCuts.j1 kj4 bt150.2 bt150.1 (bt153.2 != t142)) else (laws_FnExactAllCuts.j1 kj4 bt150.2 bt150.1 true)))) else (some false))))) = some r := by rw [if_neg (show ¬ (false = true) by decide)] at H; exact H
    clear H
    have H := H1
    clear H1
    replace H := Option.bind_eq_some_iff.mp H
    obtain ⟨⟨t150, t151⟩, A170, H⟩ := H
    replace H : ((laws_heldDiagonalSS.f kj4 t151 1).bind fun t152 => (if t152 < 0 then (some false) else (if t152 = t150 then ((impl_AllCuts.f kj4 a0 a1).bind fun bt153 => ((laws_eqDiagonalSS.f kj4 bt153.1 t141).bind fun t157 => (if t157 = true then (laws_FnExactAllCuts.j1 kj4 t151 t150 (bt153.2 != t142)) else (laws_FnExactAllCuts.j1 kj4 t151 t150 true)))) else (some false)))) = some r := H
    have A17 := Aside0.mk A170
    clear A170
    replace H := Option.bind_eq_some_iff.mp H
    obtain ⟨t152, A180, H⟩ := H
    replace H : (if t152 < 0 then (some false) else (if t152 = t150 then ((impl_AllCuts.f kj4 a0 a1).bind fun bt153 => ((laws_eqDiagonalSS.f kj4 bt153.1 t141).bind fun t157 => (if t157 = true then (laws_FnExactAllCuts.j1 kj4 t151 t150 (bt153.2 != t142)) else (laws_FnExactAllCuts.j1 kj4 t151 t150 true)))) else (some false))) = some r := H
    have A18 := Aside0.mk A180
    clear A180
    by_cases c19 : t152 < 0
    ·rw [if_pos c19] at H
     have c19b0 : decide (t152 < 0) = true := decide_eq_true c19
     clear c19
     exact absurd (H.trans (congrArg some htrue.out)) (by decide)
    ·rw [if_neg c19] at H
     have c19b0 : decide (t152 < 0) = false := decide_eq_false c19
     clear c19
     by_cases c20 : t152 = t150
     ·rw [if_pos c20] at H
      have c20b0 : (t152 == t150) = true := beq_iff_eq.mpr c20
      have c20b1 : (t152 != t150) = false := bne_eq_false_iff_eq.mpr c20
      clear c20
      replace H := Option.bind_eq_some_iff.mp H
      obtain ⟨⟨t153, t154⟩, A210, H⟩ := H
      replace H : ((laws_eqDiagonalSS.f kj4 t153 t141).bind fun t157 => (if t157 = true then (laws_FnExactAllCuts.j1 kj4 t151 t150 (t154 != t142)) else (laws_FnExactAllCuts.j1 kj4 t151 t150 true))) = some r := H
      have A21 := Aside0.mk A210
      clear A210
      have HC22 := Aside0.mk H
      clear H
      obtain ⟨Ao23, co23, eo23⟩ := Kd.S_slice HO_7.out
      subst eo23
      go_upto_region 14 with (first | ((with_reducible refine gate_callee (f := 44) rfl ?_); refine goesL_ (some 36) rfl rfl Try.func44 (by kernel_rfl) rfl #[.slice Ao23 t145.length co23, .int .i64 1] rfl amp_ ?_; (with_reducible refine (laws_markDiagonalSS.calls kj4 (fun k_ => N_ ≤ k_) (.slice Ao23 t145.length co23) t145 1 t150 t151 w _ ?side1 ?side2 A17.out).mono ?_); (case side1 => repeat (first | (with_reducible first | exact HB.out | apply below_alloc | apply pw_below_drewN | apply below_drew1) | exact HB.out)); (case side2 => exact HO_7.out); rintro e w24 ⟨rfl, hy0, hb, hkp⟩; refine ⟨_, rfl, ?_⟩; have n0_ := Aside0.mk (Kd.S_mono (ok' := fun k_ => k_ < N_) (Kd.S_keptB (HO_5.out) hkp (fun k_ hk_ hs_ => absurd hs_ (Nat.not_le_of_lt hk_))) (fun k_ hk_ => hk_.1)); have n1_ := Aside0.mk hy0; have n2_ := Aside0.mk (hb); clear HO_5; clear HO_7; clear HB; have HO_5 := n0_; have HO_7 := n1_; have HB := n2_; clear n0_ n1_ n2_; (try clear hb); (try clear hkp); (try clear hy0)) | ((with_reducible refine gate_callee (f := 45) rfl ?_); refine goesL_ (some 39) rfl rfl Try.func45 (by kernel_rfl) rfl #[.slice Ao23 t151.length co23, .int .i64 1] rfl (by (try simp only [List.map_toArray, List.map_cons, List.map_nil]); first | done | (rw [show t151.length = t145.length from (Kd.S_reads' HO_7.out).1.symm] <;> rfl) | rfl | (simp only [List.length_drop, List.length_take]; rfl)) ?_; (with_reducible refine (laws_heldDiagonalSS.calls kj4 _ _ t151 1 t152 _ ?side1 ?side2 A18.out).mono ?_); (case side1 => repeat (first | exact (Kd.S_reads' HO_7.out).2.2 | (with_reducible refine Kd.C_alloc ?_ _) | (with_reducible refine Kd.C_drewN ?_ _) | (with_reducible refine Kd.C_drew ?_))); (case side2 => rw [show t151.length = t145.length from (Kd.S_reads' HO_7.out).1.symm]; exact (Kd.S_reads' HO_7.out).2.1); rintro e w' ⟨rfl, ⟨nd, rfl⟩⟩; refine ⟨_, rfl, ?_⟩) | ((with_reducible refine gate_callee (f := 42) rfl ?_); refine goesL_ (some 48) rfl rfl Try.func42 (by kernel_rfl) rfl #[.int .i64 a0, .int .i64 a1] rfl amp_ ?_; (with_reducible refine (impl_AllCuts.calls kj4 a0 a1 t153 t154 _ A21.out).mono ?_); rintro e w25 ⟨v155, rfl, ho0, hb⟩; refine ⟨_, rfl, ?_⟩; have n0_ := Aside0.mk (Kd.S_elder' (by (with_reducible repeat (first | apply Kd.S_alloc | apply Kd.S_drewN | apply Kd.S_drew)); exact HO_5.out) (Kd.S_base ho0) hb); have n1_ := Aside0.mk (Kd.S_elder' (by (with_reducible repeat (first | apply Kd.S_alloc | apply Kd.S_drewN | apply Kd.S_drew)); exact HO_7.out) (Kd.S_base ho0) hb); have n2_ := Aside0.mk (Kd.S_lower (Kd.S_new' (Kd.S_new' ho0 (Kd.S_lt (by (with_reducible repeat (first | apply Kd.S_alloc | apply Kd.S_drewN | apply Kd.S_drew)); exact HO_5.out))) (Kd.S_lt (by (with_reducible repeat (first | apply Kd.S_alloc | apply Kd.S_drewN | apply Kd.S_drew)); exact HO_7.out))) (below_size blw_)); have n3_ := Aside0.mk (below_step blw_ hb); clear HO_5; clear HO_7; clear HB; have HO_5 := n0_; have HO_7 := n1_; have HO156 := n2_; have HB := n3_; clear n0_ n1_ n2_ n3_; (try clear hb); (try clear hb2); (try clear hk); (try clear hi); (try clear ho0)))
      (try simp only [Act.put, List.setIfInBounds_toArray, List.set_cons_zero, List.set_cons_succ])
      go_cut [59] (fun v59 wc => ∃ (kq : Nat) (x59_21 : Bool), v59 = .bool x59_21 ∧ Aside0 (laws_FnExactAllCuts.j1 kq t151 t150 x59_21 = some r) ∧ Aside0 (kq ≤ kj4) ∧ Aside0 (Kd.S (Kd.slice 72 k72) 30 wc w.heap.size (fun _ => True) (.slice Ao23 t145.length co23) t151) ∧ Aside0 (Below w.heap.size w wc))
      case first =>
       have H := HC22.out
       clear HC22
       replace H := Option.bind_eq_some_iff.mp H
       obtain ⟨t157, A260, H⟩ := H
       replace H : (if t157 = true then (laws_FnExactAllCuts.j1 kj4 t151 t150 (t154 != t142)) else (laws_FnExactAllCuts.j1 kj4 t151 t150 true)) = some r := H
       have A26 := Aside0.mk A260
       clear A260
       by_cases c27 : t157 = true
       ·subst c27
        have H1 : (laws_FnExactAllCuts.j1 kj4 t151 t150 (t154 != t142)) = some r := by rw [if_pos rfl] at H; exact H
        clear H
        have H := H1
        clear H1
        have H' := Aside0.mk H
        clear H
        obtain ⟨Ao28, co28, eo28⟩ := Kd.S_slice HO156.out
        subst eo28
        obtain ⟨Ao29, co29, eo29⟩ := Kd.S_slice HO_5.out
        subst eo29
        go_wp2_with (first | ((with_reducible refine gate_callee (f := 43) rfl ?_); refine goesL_ (some 53) rfl rfl Try.func43 (by kernel_rfl) rfl #[.slice Ao28 t153.length co28, .slice Ao29 t141.length co29] rfl amp_ ?_; (with_reducible refine (laws_eqDiagonalSS.calls kj4 _ _ t153 _ _ t141 true _ ?side1 ?side2 ?side3 ?side4 A26.out).mono ?_); (case side1 => repeat (first | exact (Kd.S_reads' HO156.out).2.2 | (with_reducible refine Kd.C_alloc ?_ _) | (with_reducible refine Kd.C_drewN ?_ _) | (with_reducible refine Kd.C_drew ?_))); (case side2 => exact (Kd.S_reads' HO156.out).2.1); (case side3 => repeat (first | exact (Kd.S_reads' HO_5.out).2.2 | (with_reducible refine Kd.C_alloc ?_ _) | (with_reducible refine Kd.C_drewN ?_ _) | (with_reducible refine Kd.C_drew ?_))); (case side4 => exact (Kd.S_reads' HO_5.out).2.1); rintro e w30 ⟨rfl, hb⟩; refine ⟨_, rfl, ?_⟩; have n0_ := Aside0.mk (Kd.S_below (by (with_reducible repeat (first | apply Kd.S_alloc | apply Kd.S_drewN | apply Kd.S_drew)); exact HO_5.out) hb); have n1_ := Aside0.mk (Kd.S_below (by (with_reducible repeat (first | apply Kd.S_alloc | apply Kd.S_drewN | apply Kd.S_drew)); exact HO_7.out) hb); have n2_ := Aside0.mk (Kd.S_below (by (with_reducible repeat (first | apply Kd.S_alloc | apply Kd.S_drewN | apply Kd.S_drew)); exact HO156.out) hb); have n3_ := Aside0.mk (below_step blw_ hb); clear HO_5; clear HO_7; clear HO156; clear HB; have HO_5 := n0_; have HO_7 := n1_; have HO156 := n2_; have HB := n3_; clear n0_ n1_ n2_ n3_; (try clear hb); (try clear hb2); (try clear hk); (try clear hi)))
        go_meet
        case rel => exact ⟨_, ((t154 != t142)), (by first | rfl | (simp; done) | (simp [*]; done)), H', ⟨by have := HJ4.out; first | omega | exact Nat.le_refl _⟩, ⟨by (with_reducible repeat (first | apply Kd.S_alloc | apply Kd.S_drewN | apply Kd.S_drew)); exact Kd.S_mono HO_7.out (fun _ hk => trivial)⟩, ⟨by repeat (first | (with_reducible first | exact HB.out | apply below_alloc | apply pw_below_drewN | apply below_drew1) | exact HB.out)⟩⟩
       ·replace c27 := Bool.eq_false_iff.mpr c27
        subst c27
        have H1 : (laws_FnExactAllCuts.j1 kj4 t151 t150 true) = some r := by rw [if_neg (show ¬ (false = true) by decide)] at H; exact H
        clear H
        have H := H1
        clear H1
        have H' := Aside0.mk H
        clear H
        obtain ⟨Ao31, co31, eo31⟩ := Kd.S_slice HO156.out
        subst eo31
        obtain ⟨Ao32, co32, eo32⟩ := Kd.S_slice HO_5.out
        subst eo32
        go_wp2_with (first | ((with_reducible refine gate_callee (f := 43) rfl ?_); refine goesL_ (some 53) rfl rfl Try.func43 (by kernel_rfl) rfl #[.slice Ao31 t153.length co31, .slice Ao32 t141.length co32] rfl amp_ ?_; (with_reducible refine (laws_eqDiagonalSS.calls kj4 _ _ t153 _ _ t141 false _ ?side1 ?side2 ?side3 ?side4 A26.out).mono ?_); (case side1 => repeat (first | exact (Kd.S_reads' HO156.out).2.2 | (with_reducible refine Kd.C_alloc ?_ _) | (with_reducible refine Kd.C_drewN ?_ _) | (with_reducible refine Kd.C_drew ?_))); (case side2 => exact (Kd.S_reads' HO156.out).2.1); (case side3 => repeat (first | exact (Kd.S_reads' HO_5.out).2.2 | (with_reducible refine Kd.C_alloc ?_ _) | (with_reducible refine Kd.C_drewN ?_ _) | (with_reducible refine Kd.C_drew ?_))); (case side4 => exact (Kd.S_reads' HO_5.out).2.1); rintro e w33 ⟨rfl, hb⟩; refine ⟨_, rfl, ?_⟩; have n0_ := Aside0.mk (Kd.S_below (by (with_reducible repeat (first | apply Kd.S_alloc | apply Kd.S_drewN | apply Kd.S_drew)); exact HO_5.out) hb); have n1_ := Aside0.mk (Kd.S_below (by (with_reducible repeat (first | apply Kd.S_alloc | apply Kd.S_drewN | apply Kd.S_drew)); exact HO_7.out) hb); have n2_ := Aside0.mk (Kd.S_below (by (with_reducible repeat (first | apply Kd.S_alloc | apply Kd.S_drewN | apply Kd.S_drew)); exact HO156.out) hb); have n3_ := Aside0.mk (below_step blw_ hb); clear HO_5; clear HO_7; clear HO156; clear HB; have HO_5 := n0_; have HO_7 := n1_; have HO156 := n2_; have HB := n3_; clear n0_ n1_ n2_ n3_; (try clear hb); (try clear hb2); (try clear hk); (try clear hi)))
        go_meet
        case rel => exact ⟨_, (true), (by first | rfl | (simp; done) | (simp [*]; done)), H', ⟨by have := HJ4.out; first | omega | exact Nat.le_refl _⟩, ⟨by (with_reducible repeat (first | apply Kd.S_alloc | apply Kd.S_drewN | apply Kd.S_drew)); exact Kd.S_mono HO_7.out (fun _ hk => trivial)⟩, ⟨by repeat (first | (with_reducible first | exact HB.out | apply below_alloc | apply pw_below_drewN | apply below_drew1) | exact HB.out)⟩⟩
      case rest =>
       clear HC22
       try clear c1
       try clear c2
       try clear p2
       try clear c4
       try clear c9
       try clear c11
       try clear c16
       try clear c19
       try clear c19b0
       try clear c20
       try clear c20b0
       try clear c20b1
       try clear c27
       try clear p2
       obtain ⟨kq, x59_21, rfl, HA, HJ21, HO_7, HB⟩ := hcut
       have hl7_21 := (Kd.S_reads' HO_7.out).1
       rw [hl7_21] at HO_7
       (try simp only [hl7_21])
       cases kq with
       | zero => exact absurd HA.out (by simp [laws_FnExactAllCuts.j1])
       | succ kj21 =>
        have H := HA.out
        clear HA
        simp only [laws_FnExactAllCuts.j1] at H
        by_cases c34 : x59_21 = true
        ·subst c34
         have H1 : (some false) = some r := by rw [if_pos rfl] at H; exact H
         clear H
         have H := H1
         clear H1
         exact absurd (H.trans (congrArg some htrue.out)) (by decide)
        ·replace c34 := Bool.eq_false_iff.mpr c34
         subst c34
         have H1 : ((laws_heldDiagonalSS.f kj21 t151 1).bind fun t158 => (if t158 < 0 then (some false) else (if t158 = t150 then (some true) else (some false)))) = some r := by rw [if_neg (show ¬ (false = true) by decide)] at H; exact H
         clear H
         have H := H1
         clear H1
         replace H := Option.bind_eq_some_iff.mp H
         obtain ⟨t158, A350, H⟩ := H
         replace H : (if t158 < 0 then (some false) else (if t158 = t150 then (some true) else (some false))) = some r := H
         have A35 := Aside0.mk A350
         clear A350
         by_cases c36 : t158 < 0
         ·rw [if_pos c36] at H
          have c36b0 : decide (t158 < 0) = true := decide_eq_true c36
          clear c36
          exact absurd (H.trans (congrArg some htrue.out)) (by decide)
         ·rw [if_neg c36] at H
          have c36b0 : decide (t158 < 0) = false := decide_eq_false c36
          clear c36
          by_cases c37 : t158 = t150
          ·rw [if_pos c37] at H
           have c37b0 : (t158 == t150) = true := beq_iff_eq.mpr c37
           have c37b1 : (t158 != t150) = false := bne_eq_false_iff_eq.mpr c37
           clear c37
           obtain rfl := Option.some.inj H
           go_wp2_with (first | ((with_reducible refine gate_callee (f := 45) rfl ?_); refine goesL_ (some 62) rfl rfl Try.func45 (by kernel_rfl) rfl #[.slice Ao23 t151.length co23, .int .i64 1] rfl amp_ ?_; (with_reducible refine (laws_heldDiagonalSS.calls kj21 _ _ t151 1 t158 _ ?side1 ?side2 A35.out).mono ?_); (case side1 => repeat (first | exact (Kd.S_reads' HO_7.out).2.2 | (with_reducible refine Kd.C_alloc ?_ _) | (with_reducible refine Kd.C_drewN ?_ _) | (with_reducible refine Kd.C_drew ?_))); (case side2 => exact (Kd.S_reads' HO_7.out).2.1); rintro e w' ⟨rfl, ⟨nd, rfl⟩⟩; refine ⟨_, rfl, ?_⟩))
           go_ret
           exact ⟨by first | rfl | (simp [errW_none, errW_some] <;> rfl) | (simp [*, errW_none, errW_some] <;> rfl), by repeat (first | (with_reducible first | exact HB.out | apply below_alloc | apply pw_below_drewN | apply below_drew1) | exact HB.out)⟩
          ·rw [if_neg c37] at H
           have c37b0 : (t158 == t150) = false := beq_eq_false_iff_ne.mpr c37
           have c37b1 : (t158 != t150) = true := bne_iff_ne.mpr c37
           exact absurd (H.trans (congrArg some htrue.out)) (by decide)
     ·rw [if_neg c20] at H
      have c20b0 : (t152 == t150) = false := beq_eq_false_iff_ne.mpr c20
      have c20b1 : (t152 != t150) = true := bne_iff_ne.mpr c20
      exact absurd (H.trans (congrArg some htrue.out)) (by decide)

/-- THE ONE PURE STATEMENT of laws_FnExactAllCuts: yours. -/
def laws_FnExactAllCuts.Pure : Prop := ∀ (a0 : Int) (a1 : Int), (Lit.int .i64 a0).wf = true → (Lit.int .i64 a1).wf = true → ∃ k, laws_FnExactAllCuts.f k a0 a1 = some true
theorem laws_FnExactAllCuts.walk (P : laws_FnExactAllCuts.Pure) (a0 : Int) (a1 : Int) (w : World) (w0 : (Lit.int .i64 a0).wf = true) (w1 : (Lit.int .i64 a1).wf = true) :
  Calls Try.prog 11 #[.int .i64 a0, .int .i64 a1] w fun e w' => e = .returned (.bool true) ∧ Below w.heap.size w w' := by
 obtain ⟨k, h⟩ := P a0 a1 w0 w1
 refine (laws_FnExactAllCuts.calls k a0 a1 true w h).mono ?_
 rintro e w' ⟨rfl, hd⟩
 exact ⟨rfl, hd⟩

end Go.Proofs.Ytnikefebkcminaa.PFnExactAllCuts
