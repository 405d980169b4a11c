-- WRITTEN BY A PROGRAM OF THIS WORK (wip/tools/ppatch.py) for this claim.
import Derived.Test.YtgblginphicacaaPFnExactAllClassesx0
import Derived.Test.YtgblginphicacaaPFnExactAllClassesx9
import Derived.Test.YtgblginphicacaaPFnExactAllClassesx13
import Derived.Test.YtgblginphicacaaPFnExactAllClassesx14
namespace Go.Proofs.Ytgblginphicacaa.PFnExactAllClasses
open Go.RowKit Go.Proofs.YtgblginphicacaaW.PrintWords Go.Proofs.YtgblginphicacaaW.PrintLast Go.Proofs.YtgblginphicacaaW.PrintMore
attribute [local go_sem] max2_int min2_int max_two min_two max_three min_three max_four min_four   -- for this text's walks alone
set_option linter.unusedVariables false
set_option linter.unusedSimpArgs false

/-! ### laws_markDiagonalSS: function 9 -/
/-- The marks of the rows, one after the other. -/
def laws_markDiagonalSS.l0 : Nat → List (List S52) → Int → Int → Option (Int × List (List S52))
 | 0, _, _, _ => none
 | k + 1, x0, x1, x5 => if x5 < (x0.length : Int) then (if 0 ≤ x5 then ((laws_markDiagonalS.f k (x0.getD x5.toNat ([] : List S52)) x1).bind fun bt => (laws_markDiagonalSS.l0 k (x0.set x5.toNat bt.2) bt.1 (wrap64 (x5 + 1)))) else (none)) else (some (x1, x0))
def laws_markDiagonalSS.f (k : Nat) (l0 : List (List S52)) (a1 : Int) : Option (Int × List (List S52)) := laws_markDiagonalSS.l0 k l0 a1 0
theorem laws_markDiagonalSS.mono_l : ∀ k, ∀ y0 y1 y2, LeO (laws_markDiagonalSS.l0 k y0 y1 y2) (laws_markDiagonalSS.l0 (k + 1) y0 y1 y2)
 | 0 => fun _ _ _ r h => by simp [laws_markDiagonalSS.l0] at h
 | k + 1 => by
  have ih0 := laws_markDiagonalSS.mono_l k
  intro y0 y1 y2
  unfold laws_markDiagonalSS.l0
  refine LeO.ite ?_ (LeO.refl _)
  refine LeO.ite ?_ (LeO.refl _)
  exact LeO.bind (laws_markDiagonalS.mono _ _ _) (fun _ => ih0 _ _ _)
theorem laws_markDiagonalSS.mono : ∀ a0 a1 k, LeO (laws_markDiagonalSS.f k a0 a1) (laws_markDiagonalSS.f (k + 1) a0 a1) := by
 intro a0 a1 k
 exact laws_markDiagonalSS.mono_l k _ _ _
theorem laws_markDiagonalSS.back {W w1 : World} {base : Nat} {ok oki : Nat → Prop} {v u : Value} {xs : List (List S52)} {i : Int} {t : List S52} (hH : Kd.H (Kd.slice 52 k52) 41 W base ok u xs i oki [v]) (hk : Kept W w1 oki)
  (hR : Kd.R k52 52 w1 base (fun k => oki k ∨ W.heap.size ≤ k) v t) (hok : ∀ k, W.heap.size ≤ k → ok k) : Kd.S (Kd.slice 52 k52) 41 w1 base ok u (xs.set i.toNat t) := by
 have h1 := Kd.H_widen hH
 have h2 := Kd.H_kept h1 hk (fun k _ hn ho => hn (Or.inl ho))
 exact Kd.H_back h2 (okp := fun k => oki k ∨ W.heap.size ≤ k) (x' := t) (Exists.intro v (And.intro rfl hR)) (fun k hk2 => hk2.elim (fun h => Or.inl h) (fun h => Or.inr ⟨hok k h, h⟩))
set_option maxHeartbeats 8000000 in
set_option maxRecDepth 100000 in
theorem laws_markDiagonalSS.calls (k : Nat) (P0_ : Nat → Prop) (u9000_ : Value) (l0 : List (List S52)) (a1 : Int) (r1 : Int) (r2 : List (List S52)) (w0 w : World) (hB : Below w0.heap.size w0 w) (ho0 : Kd.S (Kd.slice 52 k52) 41 w w0.heap.size P0_ u9000_ l0) (h : laws_markDiagonalSS.f k l0 a1 = some (r1, r2)) :
  Calls Try.prog 9 #[u9000_, .int .i64 a1] w fun e w' => e = .returned (.int .i64 r1) ∧ Kd.S (Kd.slice 52 k52) 41 w' w0.heap.size (fun k_ => (P0_ k_ ∨ w.heap.size ≤ k_)) u9000_ r2 ∧ Below w0.heap.size w0 w' ∧ Kept w w' (fun k_ => P0_ k_) := by
 obtain ⟨A, c, rfl⟩ := Kd.S_slice ho0
 have HO := Aside0.mk (show Kd.S (Kd.slice 52 k52) 41 w w0.heap.size (fun k_ => (P0_ k_ ∨ w.heap.size ≤ k_)) (.slice A l0.length c) l0 from Kd.S_mono ho0 (fun k_ hk => (.inl hk)))
 have HB := Aside0.mk hB
 clear hB ho0
 have H' := Aside0.mk (show laws_markDiagonalSS.l0 k l0 a1 0 = some (r1, r2) from h)
 clear h
 obtain ⟨n, hn⟩ : ∃ n : Nat, n = l0.length := ⟨_, rfl⟩
 rw [← hn] at HO ⊢
 have HN := Aside0.mk hn
 clear hn
 go_enter Try.func9, Try.ntmps9
 go_wp2
 go_loopg [1, 5] k (fun kq v1 v5 w' => ∃ (xs : List (List S52)) (x1_1 : Int) (x5_1 : Int), v1 = .int .i64 x1_1 ∧ v5 = .int .i64 x5_1 ∧ Aside0 (laws_markDiagonalSS.l0 kq xs x1_1 x5_1 = some (r1, r2)) ∧ Aside0 (kq ≤ k) ∧ Aside0 (xs.length = n) ∧ Aside0 (Kd.S (Kd.slice 52 k52) 41 w' w0.heap.size (fun k_ => (P0_ k_ ∨ w.heap.size ≤ k_)) (.slice A n c) xs) ∧ Aside0 (Below w0.heap.size w0 w') ∧ Aside0 (Kept w w' (fun k_ => P0_ k_)))
 case atStart => exact ⟨l0, (a1), (0), (by first | rfl | (simp; done)), (by first | rfl | (simp; done)), H', ⟨Nat.le_refl _⟩, ⟨HN.out.symm⟩, ⟨by (with_reducible repeat (first | apply Kd.S_alloc | apply Kd.S_drewN | apply Kd.S_drew)); exact HO.out⟩, ⟨by repeat (first | (with_reducible first | exact HB.out | apply below_alloc | apply pw_below_drewN | apply below_drew1) | exact HB.out)⟩, ⟨by (with_reducible repeat (first | apply Kept.alloc | apply Kept.drewN | apply Kept.drew)); exact Kept.refl _ _⟩⟩
 case round =>
  clear H' HO HB HN
  obtain ⟨xs, x1_1, x5_1, rfl, rfl, HA, HK1, HL, HO, HB, HKp⟩ := hrel
  cases gk with
  | zero => exact absurd HA.out (by simp [laws_markDiagonalSS.l0])
  | succ k1 =>
   have H := HA.out
   clear HA
   simp only [laws_markDiagonalSS.l0] at H
   rw [HL.out] at H
   by_cases c3 : x5_1 < (n : Int)
   ·rw [if_pos c3] at H
    by_cases c4 : 0 ≤ x5_1
    ·rw [if_pos c4] at H
     replace H := Option.bind_eq_some_iff.mp H
     obtain ⟨⟨t1, t2⟩, A50, H⟩ := H
     have A5 := Aside0.mk A50
     clear A50
     have H' := Aside0.mk (show laws_markDiagonalSS.l0 k1 (xs.set x5_1.toNat t2) t1 (wrap64 (x5_1 + 1)) = some (r1, r2) from H)
     clear H
     obtain ⟨ad, rfl⟩ : ∃ ad, A = some ad := by
      have hr := Kd.S_reads' HO.out
      obtain ⟨ad, e, _⟩ := hr.2.2.2.2 (by have := HL.out; omega)
      exact ⟨ad, e⟩
     obtain ⟨g, rfl⟩ := Kd.R_head (Kd.S_R HO.out)
     obtain ⟨oki, cs, hcl, hM, hcell, hoki, hH⟩ := Kd.S_lend HO.out ([] : List S52) x5_1 c4 c3
     obtain ⟨v, rfl, hR⟩ := hM
     have hx := hcell 0 v rfl
     rw [Nat.add_zero, show (Kd.slice 52 k52).sz = 1 from rfl, Nat.mul_one] at hx
     have hadd : (⟨g, 0, none⟩ : Addr).add x5_1.toNat = ⟨g, x5_1.toNat, none⟩ := by rw [add_at, Nat.zero_add]
     have HR := Aside0.mk hR
     have HH := Aside0.mk hH
     have HOK := Aside0.mk hoki
     clear hR hH hoki hcell hcl HO
     have c3b0 : decide (x5_1 < (n : Int)) = true := decide_eq_true c3
     have p331 := eq_true c4
     have q331 := eq_true c3
     clear c3 c4
     go_wp2_with ((with_reducible refine gate_callee (f := 27) rfl ?_); refine goesL_ (some 17) rfl rfl Try.func27 (by kernel_rfl) rfl #[v, .int .i64 x1_1] rfl (by (try simp only [List.map_toArray, List.map_cons, List.map_nil]); first | done | rfl) ?_; (with_reducible refine (laws_markDiagonalS.calls k1 oki v (xs.getD x5_1.toNat ([] : List S52)) x1_1 t1 t2 w0 _ ?side1 ?side2 A5.out).mono ?_); (case side1 => exact blw_); (case side2 => (with_reducible repeat (first | apply Kd.R_alloc | apply Kd.R_drewN | apply Kd.R_drew)); exact HR.out); rintro e w41 ⟨rfl, hy0, hb, hkp⟩; refine ⟨_, rfl, ?_⟩; have nk_ := Aside0.mk (Kept.then_ (by (with_reducible repeat (first | apply Kept.alloc | apply Kept.drewN | apply Kept.drew)); exact HKp.out) hkp (fun k_ ho_ => (HOK.out k_ ho_).1)); have n0_ := Aside0.mk (laws_markDiagonalSS.back (by (with_reducible repeat (first | apply Kd.H_alloc | apply Kd.H_drewN | apply Kd.H_drew)); exact HH.out) hkp hy0 (fun k_ h_ => Or.inr (Nat.le_trans HKp.out.1 h_))); have n1_ := Aside0.mk hb; clear HKp HB HH HR HOK hkp hb hy0; have HKp := nk_; have HO := n0_; have HB := n1_; clear nk_ n0_ n1_)
     go_roundg k1
     case measure => have := HK1.out; omega
     case rel => exact ⟨_, t1, (wrap64 (x5_1 + 1)), (by first | rfl | (simp; done)), (by first | rfl | (simp; done)), H', ⟨by have := HK1.out; omega⟩, ⟨by rw [List.length_set]; exact HL.out⟩, ⟨by (with_reducible repeat (first | apply Kd.S_alloc | apply Kd.S_drewN | apply Kd.S_drew)); exact HO.out⟩, ⟨blw_⟩, ⟨by (with_reducible repeat (first | apply Kept.alloc | apply Kept.drewN | apply Kept.drew)); exact HKp.out⟩⟩
    ·rw [if_neg c4] at H
     exact absurd H (by simp)
   ·rw [if_neg c3] at H
    have c3b0 : decide (x5_1 < (n : Int)) = false := decide_eq_false c3
    clear c3
    simp only [Option.some.injEq, Prod.mk.injEq] at H
    obtain ⟨rfl, rfl⟩ := H
    go_wp2
    go_ret
    exact ⟨by first | rfl | (simp; done), by (with_reducible repeat (first | apply Kd.S_alloc | apply Kd.S_drewN | apply Kd.S_drew)); exact HO.out, by repeat (first | (with_reducible first | exact HB.out | apply below_alloc | apply pw_below_drewN | apply below_drew1) | exact HB.out), by (with_reducible repeat (first | apply Kept.alloc | apply Kept.drewN | apply Kept.drew)); exact HKp.out⟩

/-! ### laws_heldDiagonalS: function 28 -/
def laws_heldDiagonalS.l0 : Nat → List (S52) → Int → Int → Option (Int)
 | 0, _, _, _ => none
 | k + 1, x0, x1, x5 => if x5 < (x0.length : Int) then (if 0 ≤ x5 then (if ((rd_T52 x0 x5).f0) = x1 then (if ((rd_T52 x0 x5).f1) = (wrap64 (x1 + 1)) then (laws_heldDiagonalS.l0 k x0 (wrap64 ((wrap64 (x1 + 1)) + 1)) (wrap64 (x5 + 1))) else (some (-1))) else (some (-1))) else (none)) else (some x1)
def laws_heldDiagonalS.f (k : Nat) (l0 : List (S52)) (a1 : Int) : Option (Int) := laws_heldDiagonalS.l0 k l0 a1 0
theorem laws_heldDiagonalS.mono_l : ∀ k, (∀ y0 y1 y2, LeO (laws_heldDiagonalS.l0 k y0 y1 y2) (laws_heldDiagonalS.l0 (k + 1) y0 y1 y2))
 | 0 => fun _ _ _ r h => by simp [laws_heldDiagonalS.l0] at h
 | k + 1 => by
  have ih0 := laws_heldDiagonalS.mono_l k
  ·intro y0 y1 y2
   unfold laws_heldDiagonalS.l0
   repeat' first
   | (with_reducible exact ih0 _ _ _)
   | (with_reducible exact LeO.refl _)
   | (with_reducible exact LeO.none _)
   | (with_reducible refine LeO.ite ?_ ?_)
   | (with_reducible refine LeO.bind ?_ (fun _ => ?_))
   | exact ih0 _ _ _
   | exact LeO.none _
   | refine LeO.ite ?_ ?_
   | refine LeO.bind ?_ (fun _ => ?_)
theorem laws_heldDiagonalS.mono : ∀ a0 a1 k, LeO (laws_heldDiagonalS.f k a0 a1) (laws_heldDiagonalS.f (k + 1) a0 a1) := by
 intro a0 a1 k
 have ih0 := laws_heldDiagonalS.mono_l k
 unfold laws_heldDiagonalS.f
 repeat' first
   | (with_reducible exact ih0 _ _ _)
   | (with_reducible exact LeO.refl _)
   | (with_reducible exact LeO.none _)
   | (with_reducible refine LeO.ite ?_ ?_)
   | (with_reducible refine LeO.bind ?_ (fun _ => ?_))
   | exact ih0 _ _ _
   | exact LeO.none _
   | refine LeO.ite ?_ ?_
   | refine LeO.bind ?_ (fun _ => ?_)
set_option maxHeartbeats 8000000 in
set_option maxRecDepth 100000 in
theorem laws_heldDiagonalS.calls (k : Nat) (A0 : Option Addr) (c0 : Nat) (l0 : List (S52)) (a1 : Int) (r : Int) (w : World) (hr0 : Kd.C k52 w A0 l0.length l0) (hc0 : l0.length ≤ c0) (h : laws_heldDiagonalS.f k l0 a1 = some r) :
  Calls Try.prog 28 #[.slice A0 l0.length c0, .int .i64 a1] w fun e w' => e = .returned (.int .i64 r) ∧ Drawn0 w w' := by
 have HR0 := Aside0.mk hr0
 have HC0 := Aside0.mk hc0
 clear hr0 hc0
 have H : (laws_heldDiagonalS.l0 k l0 a1 0) = some r := h
 clear h
 have H' := Aside0.mk H
 clear H
 go_enter Try.func28, Try.ntmps28
 go_wp2
 go_loopg [1, 5] k (fun kq v1 v5 w' => ∃ (x1_1 : Int) (x5_1 : Int), v1 = .int .i64 x1_1 ∧ v5 = .int .i64 x5_1 ∧ Aside0 (laws_heldDiagonalS.l0 kq l0 x1_1 x5_1 = some r) ∧ Aside0 (kq ≤ k) ∧ Drawn0 w w')
 case atStart => exact ⟨(a1), (0), (by first | rfl | (simp; done) | (simp [*]; done)), (by first | rfl | (simp; done) | (simp [*]; done)), H', ⟨Nat.le_refl _⟩, by repeat (first | exact Drawn0.refl _ | apply Drawn0.step)⟩
 case round =>
  clear H'
  try clear c2
  try clear p2
  obtain ⟨x1_1, x5_1, rfl, rfl, HA, HK1, ⟨m1, rfl⟩⟩ := hrel
  cases gk with
  | zero => exact absurd HA.out (by simp [laws_heldDiagonalS.l0])
  | succ k1 =>
   have H := HA.out
   clear HA
   simp only [laws_heldDiagonalS.l0] at H
   by_cases c3 : x5_1 < (l0.length : Int)
   ·rw [if_pos c3] at H
    have c3b0 : decide (x5_1 < (l0.length : Int)) = true := decide_eq_true c3
    clear c3
    by_cases c4 : 0 ≤ x5_1
    ·rw [if_pos c4] at H
     have c4b0 : decide (0 ≤ x5_1) = true := decide_eq_true c4
     clear c4
     by_cases c5 : ((rd_T52 l0 x5_1).f0) = x1_1
     ·rw [if_pos c5] at H
      have c5b0 : (((rd_T52 l0 x5_1).f0) == x1_1) = true := beq_iff_eq.mpr c5
      have c5b1 : (((rd_T52 l0 x5_1).f0) != x1_1) = false := bne_eq_false_iff_eq.mpr c5
      clear c5
      by_cases c6 : ((rd_T52 l0 x5_1).f1) = (wrap64 (x1_1 + 1))
      ·rw [if_pos c6] at H
       have c6b0 : (((rd_T52 l0 x5_1).f1) == (wrap64 (x1_1 + 1))) = true := beq_iff_eq.mpr c6
       have c6b1 : (((rd_T52 l0 x5_1).f1) != (wrap64 (x1_1 + 1))) = false := bne_eq_false_iff_eq.mpr c6
       clear c6
       have H' := Aside0.mk H
       clear H
       have p317 : 0 ≤ (x5_1 : Int) := odt_
       have q317 : x5_1 < (l0.length : Int) := odt_
       obtain ⟨ad317, e317, hx317_0, hx317_1⟩ := at_T52 HR0.out x5_1 p317 q317
       cases e317
       replace p317 := eq_true p317
       replace q317 := eq_true q317
       have p318 : 0 ≤ (x5_1 : Int) := odt_
       have q318 : x5_1 < (l0.length : Int) := odt_
       obtain ⟨ad318, e318, hx318_0, hx318_1⟩ := at_T52 HR0.out x5_1 p318 q318
       obtain rfl : ad317 = ad318 := (by injection e318)
       replace p318 := eq_true p318
       replace q318 := eq_true q318
       go_wp2
       go_roundg k1
       case measure => have := HK1.out; omega
       case rel => exact ⟨(wrap64 ((wrap64 (x1_1 + 1)) + 1)), (wrap64 (x5_1 + 1)), (by first | rfl | (simp; done) | (simp [*]; done)), (by first | rfl | (simp; done) | (simp [*]; done)), H', ⟨by have := HK1.out; omega⟩, by repeat (first | exact Drawn0.refl _ | apply Drawn0.step)⟩
      ·rw [if_neg c6] at H
       have c6b0 : (((rd_T52 l0 x5_1).f1) == (wrap64 (x1_1 + 1))) = false := beq_eq_false_iff_ne.mpr c6
       have c6b1 : (((rd_T52 l0 x5_1).f1) != (wrap64 (x1_1 + 1))) = true := bne_iff_ne.mpr c6
       obtain rfl := Option.some.inj H
       have p317 : 0 ≤ (x5_1 : Int) := odt_
       have q317 : x5_1 < (l0.length : Int) := odt_
       obtain ⟨ad317, e317, hx317_0, hx317_1⟩ := at_T52 HR0.out x5_1 p317 q317
       cases e317
       replace p317 := eq_true p317
       replace q317 := eq_true q317
       have p318 : 0 ≤ (x5_1 : Int) := odt_
       have q318 : x5_1 < (l0.length : Int) := odt_
       obtain ⟨ad318, e318, hx318_0, hx318_1⟩ := at_T52 HR0.out x5_1 p318 q318
       obtain rfl : ad317 = ad318 := (by injection e318)
       replace p318 := eq_true p318
       replace q318 := eq_true q318
       go_wp2
       go_ret
       exact ⟨by first | rfl | (simp; done) | (simp [*]; done), by repeat (first | exact Drawn0.refl _ | apply Drawn0.step)⟩
     ·rw [if_neg c5] at H
      have c5b0 : (((rd_T52 l0 x5_1).f0) == x1_1) = false := beq_eq_false_iff_ne.mpr c5
      have c5b1 : (((rd_T52 l0 x5_1).f0) != x1_1) = true := bne_iff_ne.mpr c5
      obtain rfl := Option.some.inj H
      have p317 : 0 ≤ (x5_1 : Int) := odt_
      have q317 : x5_1 < (l0.length : Int) := odt_
      obtain ⟨ad317, e317, hx317_0, hx317_1⟩ := at_T52 HR0.out x5_1 p317 q317
      cases e317
      replace p317 := eq_true p317
      replace q317 := eq_true q317
      go_wp2
      go_ret
      exact ⟨by first | rfl | (simp; done) | (simp [*]; done), by repeat (first | exact Drawn0.refl _ | apply Drawn0.step)⟩
    ·rw [if_neg c4] at H
     exact absurd H (by simp)
   ·rw [if_neg c3] at H
    have c3b0 : decide (x5_1 < (l0.length : Int)) = false := decide_eq_false c3
    clear c3
    obtain rfl := Option.some.inj H
    go_wp2
    go_ret
    exact ⟨by first | rfl | (simp; done) | (simp [*]; done), by repeat (first | exact Drawn0.refl _ | apply Drawn0.step)⟩

/-! ### laws_heldDiagonalSS: function 10 -/
def laws_heldDiagonalSS.l0 : Nat → List (List (S52)) → Int → Int → Option (Int)
 | 0, _, _, _ => none
 | k + 1, x0, x1, x5 => if x5 < (x0.length : Int) then (if 0 ≤ x5 then ((laws_heldDiagonalS.f k (rd_L2 x0 x5) x1).bind fun t320 => (if t320 < 0 then (some (-1)) else (laws_heldDiagonalSS.l0 k x0 t320 (wrap64 (x5 + 1))))) else (none)) else (some x1)
def laws_heldDiagonalSS.f (k : Nat) (l0 : List (List (S52))) (a1 : Int) : Option (Int) := laws_heldDiagonalSS.l0 k l0 a1 0
theorem laws_heldDiagonalSS.mono_l : ∀ k, (∀ y0 y1 y2, LeO (laws_heldDiagonalSS.l0 k y0 y1 y2) (laws_heldDiagonalSS.l0 (k + 1) y0 y1 y2))
 | 0 => fun _ _ _ r h => by simp [laws_heldDiagonalSS.l0] at h
 | k + 1 => by
  have ih0 := laws_heldDiagonalSS.mono_l k
  ·intro y0 y1 y2
   unfold laws_heldDiagonalSS.l0
   repeat' first
   | (with_reducible exact ih0 _ _ _)
   | (with_reducible exact laws_heldDiagonalS.mono _ _ _)
   | (with_reducible exact LeO.refl _)
   | (with_reducible exact LeO.none _)
   | (with_reducible refine LeO.ite ?_ ?_)
   | (with_reducible refine LeO.bind ?_ (fun _ => ?_))
   | exact ih0 _ _ _
   | exact laws_heldDiagonalS.mono _ _ _
   | exact LeO.none _
   | refine LeO.ite ?_ ?_
   | refine LeO.bind ?_ (fun _ => ?_)
theorem laws_heldDiagonalSS.mono : ∀ a0 a1 k, LeO (laws_heldDiagonalSS.f k a0 a1) (laws_heldDiagonalSS.f (k + 1) a0 a1) := by
 intro a0 a1 k
 have ih0 := laws_heldDiagonalSS.mono_l k
 unfold laws_heldDiagonalSS.f
 repeat' first
   | (with_reducible exact ih0 _ _ _)
   | (with_reducible exact laws_heldDiagonalS.mono _ _ _)
   | (with_reducible exact LeO.refl _)
   | (with_reducible exact LeO.none _)
   | (with_reducible refine LeO.ite ?_ ?_)
   | (with_reducible refine LeO.bind ?_ (fun _ => ?_))
   | exact ih0 _ _ _
   | exact laws_heldDiagonalS.mono _ _ _
   | exact LeO.none _
   | refine LeO.ite ?_ ?_
   | refine LeO.bind ?_ (fun _ => ?_)
set_option maxHeartbeats 8000000 in
set_option maxRecDepth 100000 in
theorem laws_heldDiagonalSS.calls (k : Nat) (A0 : Option Addr) (c0 : Nat) (l0 : List (List (S52))) (a1 : Int) (r : Int) (w : World) (hr0 : Kd.C (Kd.slice 52 k52) w A0 l0.length l0) (hc0 : l0.length ≤ c0) (h : laws_heldDiagonalSS.f k l0 a1 = some r) :
  Calls Try.prog 10 #[.slice A0 l0.length c0, .int .i64 a1] w fun e w' => e = .returned (.int .i64 r) ∧ Drawn0 w w' := by
 have HR0 := Aside0.mk hr0
 have HC0 := Aside0.mk hc0
 clear hr0 hc0
 have H : (laws_heldDiagonalSS.l0 k l0 a1 0) = some r := h
 clear h
 have H' := Aside0.mk H
 clear H
 go_enter Try.func10, Try.ntmps10
 go_wp2
 go_loopg [1, 5] k (fun kq v1 v5 w' => ∃ (x1_1 : Int) (x5_1 : Int), v1 = .int .i64 x1_1 ∧ v5 = .int .i64 x5_1 ∧ Aside0 (laws_heldDiagonalSS.l0 kq l0 x1_1 x5_1 = some r) ∧ Aside0 (kq ≤ k) ∧ Drawn0 w w')
 case atStart => exact ⟨(a1), (0), (by first | rfl | (simp; done) | (simp [*]; done)), (by first | rfl | (simp; done) | (simp [*]; done)), H', ⟨Nat.le_refl _⟩, by repeat (first | exact Drawn0.refl _ | apply Drawn0.step)⟩
 case round =>
  clear H'
  try clear c1
  try clear p2
  obtain ⟨x1_1, x5_1, rfl, rfl, HA, HK1, ⟨m1, rfl⟩⟩ := hrel
  cases gk with
  | zero => exact absurd HA.out (by simp [laws_heldDiagonalSS.l0])
  | succ k1 =>
   have H := HA.out
   clear HA
   simp only [laws_heldDiagonalSS.l0] at H
   by_cases c3 : x5_1 < (l0.length : Int)
   ·rw [if_pos c3] at H
    have c3b0 : decide (x5_1 < (l0.length : Int)) = true := decide_eq_true c3
    clear c3
    by_cases c4 : 0 ≤ x5_1
    ·rw [if_pos c4] at H
     have c4b0 : decide (0 ≤ x5_1) = true := decide_eq_true c4
     clear c4
     replace H := Option.bind_eq_some_iff.mp H
     obtain ⟨t320, A50, H⟩ := H
     replace H : (if t320 < 0 then (some (-1)) else (laws_heldDiagonalSS.l0 k1 l0 t320 (wrap64 (x5_1 + 1)))) = some r := H
     have A5 := Aside0.mk A50
     clear A50
     by_cases c6 : t320 < 0
     ·rw [if_pos c6] at H
      have c6b0 : decide (t320 < 0) = true := decide_eq_true c6
      clear c6
      obtain rfl := Option.some.inj H
      have p319 : 0 ≤ (x5_1 : Int) := odt_
      have q319 : x5_1 < (l0.length : Int) := odt_
      obtain ⟨ad319, A319_0, c319_0, e319, hx319_0, hl319_0, hi319_0⟩ := at_L2 HR0.out x5_1 p319 q319
      cases e319
      have HR319_0 := Aside0.mk hi319_0
      have HC319_0 := Aside0.mk hl319_0
      clear hi319_0 hl319_0
      replace p319 := eq_true p319
      replace q319 := eq_true q319
      go_wp2_with (first | ((with_reducible refine gate_callee (f := 28) rfl ?_); refine goesL_ (some 17) rfl rfl Try.func28 (by kernel_rfl) rfl #[.slice A319_0 (rd_L2 l0 x5_1).length c319_0, .int .i64 x1_1] rfl amp_ ?_; (with_reducible refine (laws_heldDiagonalS.calls k1 _ _ (rd_L2 l0 x5_1) x1_1 t320 _ ?side1 ?side2 A5.out).mono ?_); (case side1 => repeat (first | exact HR319_0.out | (with_reducible refine Kd.C_alloc ?_ _) | (with_reducible refine Kd.C_drewN ?_ _) | (with_reducible refine Kd.C_drew ?_))); (case side2 => exact HC319_0.out); rintro e w' ⟨rfl, ⟨nd, rfl⟩⟩; refine ⟨_, rfl, ?_⟩))
      go_ret
      exact ⟨by first | rfl | (simp; done) | (simp [*]; done), by repeat (first | exact Drawn0.refl _ | apply Drawn0.step)⟩
     ·rw [if_neg c6] at H
      have c6b0 : decide (t320 < 0) = false := decide_eq_false c6
      clear c6
      have H' := Aside0.mk H
      clear H
      have p319 : 0 ≤ (x5_1 : Int) := odt_
      have q319 : x5_1 < (l0.length : Int) := odt_
      obtain ⟨ad319, A319_0, c319_0, e319, hx319_0, hl319_0, hi319_0⟩ := at_L2 HR0.out x5_1 p319 q319
      cases e319
      have HR319_0 := Aside0.mk hi319_0
      have HC319_0 := Aside0.mk hl319_0
      clear hi319_0 hl319_0
      replace p319 := eq_true p319
      replace q319 := eq_true q319
      go_wp2_with (first | ((with_reducible refine gate_callee (f := 28) rfl ?_); refine goesL_ (some 17) rfl rfl Try.func28 (by kernel_rfl) rfl #[.slice A319_0 (rd_L2 l0 x5_1).length c319_0, .int .i64 x1_1] rfl amp_ ?_; (with_reducible refine (laws_heldDiagonalS.calls k1 _ _ (rd_L2 l0 x5_1) x1_1 t320 _ ?side1 ?side2 A5.out).mono ?_); (case side1 => repeat (first | exact HR319_0.out | (with_reducible refine Kd.C_alloc ?_ _) | (with_reducible refine Kd.C_drewN ?_ _) | (with_reducible refine Kd.C_drew ?_))); (case side2 => exact HC319_0.out); rintro e w' ⟨rfl, ⟨nd, rfl⟩⟩; refine ⟨_, rfl, ?_⟩))
      go_roundg k1
      case measure => have := HK1.out; omega
      case rel => exact ⟨(t320), (wrap64 (x5_1 + 1)), (by first | rfl | (simp; done) | (simp [*]; done)), (by first | rfl | (simp; done) | (simp [*]; done)), H', ⟨by have := HK1.out; omega⟩, by repeat (first | exact Drawn0.refl _ | apply Drawn0.step)⟩
    ·rw [if_neg c4] at H
     exact absurd H (by simp)
   ·rw [if_neg c3] at H
    have c3b0 : decide (x5_1 < (l0.length : Int)) = false := decide_eq_false c3
    clear c3
    obtain rfl := Option.some.inj H
    go_wp2
    go_ret
    exact ⟨by first | rfl | (simp; done) | (simp [*]; done), by repeat (first | exact Drawn0.refl _ | apply Drawn0.step)⟩

/-! ### laws_FnExactAllClasses: function 3 -/
mutual
def laws_FnExactAllClasses.j0 : Nat → Int → List (List (S52)) → Bool → List (List (S52)) → Bool → Option (Bool)
 | 0, _, _, _, _, _ => none
 | k + 1, x0, x3, x4, x5, x29 => if x29 = true then (some false) else ((laws_markDiagonalSS.f k x5 1).bind fun bt330 => ((laws_heldDiagonalSS.f k bt330.2 1).bind fun t332 => (if t332 < 0 then (some false) else (if t332 = bt330.1 then ((impl_AllClasses.f k x0).bind fun bt333 => ((laws_eqDiagonalSS.f k bt333.1 x3).bind fun t337 => (if t337 = true then (laws_FnExactAllClasses.j1 k bt330.2 bt330.1 (bt333.2 != x4)) else (laws_FnExactAllClasses.j1 k bt330.2 bt330.1 true)))) else (some false)))))
def laws_FnExactAllClasses.j1 : Nat → List (List (S52)) → Int → Bool → Option (Bool)
 | 0, _, _, _ => none
 | k + 1, x5, x7, x54 => if x54 = true then (some false) else ((laws_heldDiagonalSS.f k x5 1).bind fun t338 => (if t338 < 0 then (some false) else (if t338 = x7 then (some true) else (some false))))
end
def laws_FnExactAllClasses.f (k : Nat) (a0 : Int) : Option (Bool) := (spec_AllClasses.f k a0).bind fun bt321 => ((impl_AllClasses.f k a0).bind fun bt325 => ((laws_eqDiagonalSS.f k bt325.1 bt321.1).bind fun t329 => (if t329 = true then (laws_FnExactAllClasses.j0 k a0 bt321.1 bt321.2 bt325.1 (bt325.2 != bt321.2)) else (laws_FnExactAllClasses.j0 k a0 bt321.1 bt321.2 bt325.1 true))))
theorem laws_FnExactAllClasses.mono_l : ∀ k, (∀ y0 y1 y2 y3 y4, LeO (laws_FnExactAllClasses.j0 k y0 y1 y2 y3 y4) (laws_FnExactAllClasses.j0 (k + 1) y0 y1 y2 y3 y4)) ∧ (∀ y0 y1 y2, LeO (laws_FnExactAllClasses.j1 k y0 y1 y2) (laws_FnExactAllClasses.j1 (k + 1) y0 y1 y2))
 | 0 => ⟨fun _ _ _ _ _ r h => by simp [laws_FnExactAllClasses.j0] at h, fun _ _ _ r h => by simp [laws_FnExactAllClasses.j1] at h⟩
 | k + 1 => by
  obtain ⟨ih0, ih1⟩ := laws_FnExactAllClasses.mono_l k
  refine ⟨?_, ?_⟩
  ·intro y0 y1 y2 y3 y4
   unfold laws_FnExactAllClasses.j0
   repeat' first
   | (with_reducible exact ih0 _ _ _ _ _)
   | (with_reducible exact ih1 _ _ _)
   | (with_reducible exact impl_AllClasses.mono _ _)
   | (with_reducible exact laws_eqDiagonalSS.mono _ _ _)
   | (with_reducible exact laws_heldDiagonalSS.mono _ _ _)
   | (with_reducible exact laws_markDiagonalSS.mono _ _ _)
   | (with_reducible exact spec_AllClasses.mono _ _)
   | (with_reducible exact LeO.refl _)
   | (with_reducible exact LeO.none _)
   | (with_reducible refine LeO.ite ?_ ?_)
   | (with_reducible refine LeO.bind ?_ (fun _ => ?_))
   | exact ih0 _ _ _ _ _
   | exact ih1 _ _ _
   | exact impl_AllClasses.mono _ _
   | exact laws_eqDiagonalSS.mono _ _ _
   | exact laws_heldDiagonalSS.mono _ _ _
   | exact laws_markDiagonalSS.mono _ _ _
   | exact spec_AllClasses.mono _ _
   | exact LeO.none _
   | refine LeO.ite ?_ ?_
   | refine LeO.bind ?_ (fun _ => ?_)
  ·intro y0 y1 y2
   unfold laws_FnExactAllClasses.j1
   repeat' first
   | (with_reducible exact ih0 _ _ _ _ _)
   | (with_reducible exact ih1 _ _ _)
   | (with_reducible exact impl_AllClasses.mono _ _)
   | (with_reducible exact laws_eqDiagonalSS.mono _ _ _)
   | (with_reducible exact laws_heldDiagonalSS.mono _ _ _)
   | (with_reducible exact laws_markDiagonalSS.mono _ _ _)
   | (with_reducible exact spec_AllClasses.mono _ _)
   | (with_reducible exact LeO.refl _)
   | (with_reducible exact LeO.none _)
   | (with_reducible refine LeO.ite ?_ ?_)
   | (with_reducible refine LeO.bind ?_ (fun _ => ?_))
   | exact ih0 _ _ _ _ _
   | exact ih1 _ _ _
   | exact impl_AllClasses.mono _ _
   | exact laws_eqDiagonalSS.mono _ _ _
   | exact laws_heldDiagonalSS.mono _ _ _
   | exact laws_markDiagonalSS.mono _ _ _
   | exact spec_AllClasses.mono _ _
   | exact LeO.none _
   | refine LeO.ite ?_ ?_
   | refine LeO.bind ?_ (fun _ => ?_)
theorem laws_FnExactAllClasses.mono : ∀ a0 k, LeO (laws_FnExactAllClasses.f k a0) (laws_FnExactAllClasses.f (k + 1) a0) := by
 intro a0 k
 obtain ⟨ih0, ih1⟩ := laws_FnExactAllClasses.mono_l k
 unfold laws_FnExactAllClasses.f
 repeat' first
   | (with_reducible exact ih0 _ _ _ _ _)
   | (with_reducible exact ih1 _ _ _)
   | (with_reducible exact impl_AllClasses.mono _ _)
   | (with_reducible exact laws_eqDiagonalSS.mono _ _ _)
   | (with_reducible exact laws_heldDiagonalSS.mono _ _ _)
   | (with_reducible exact laws_markDiagonalSS.mono _ _ _)
   | (with_reducible exact spec_AllClasses.mono _ _)
   | (with_reducible exact LeO.refl _)
   | (with_reducible exact LeO.none _)
   | (with_reducible refine LeO.ite ?_ ?_)
   | (with_reducible refine LeO.bind ?_ (fun _ => ?_))
   | exact ih0 _ _ _ _ _
   | exact ih1 _ _ _
   | exact impl_AllClasses.mono _ _
   | exact laws_eqDiagonalSS.mono _ _ _
   | exact laws_heldDiagonalSS.mono _ _ _
   | exact laws_markDiagonalSS.mono _ _ _
   | exact spec_AllClasses.mono _ _
   | exact LeO.none _
   | refine LeO.ite ?_ ?_
   | refine LeO.bind ?_ (fun _ => ?_)
theorem ss_size {W w1 : World} (_ : Below W.heap.size W w1) : ∃ N : Nat, Aside0 (N = W.heap.size) := ⟨_, ⟨rfl⟩⟩
theorem ss_old {α : Type} {d : Kd α} {e base N : Nat} {ok : Nat → Prop} {u : Value} {xs : List α} {W w1 : World} (h : Kd.S d e W base ok u xs) (hb : Below W.heap.size W w1) (hN : Aside0 (N = W.heap.size)) : Kd.S d e w1 base (fun k => ok k ∧ k < N) u xs := by
 rw [hN.out]
 exact Kd.S_old h hb
theorem ss_new {α : Type} {d : Kd α} {e N : Nat} {ok : Nat → Prop} {u : Value} {xs : List α} {W w1 : World} (h : Kd.S d e w1 W.heap.size ok u xs) (hN : Aside0 (N = W.heap.size)) : Kd.S d e w1 W.heap.size (fun k => ok k ∧ N ≤ k) u xs :=
 Kd.S_mono (Kd.S_bound h) (fun k hk => ⟨hk.1, by rw [hN.out]; exact hk.2.1⟩)
set_option maxHeartbeats 8000000 in
set_option maxRecDepth 100000 in
theorem laws_FnExactAllClasses.calls (k : Nat) (a0 : Int) (r : Bool) (w : World) (h : laws_FnExactAllClasses.f k a0 = some r) (htrue : Aside0 (r = true) := by exact ⟨rfl⟩) :
  Calls Try.prog 3 #[.int .i64 a0] w fun e w' => e = .returned (.bool r) ∧ Below w.heap.size w w' := by
 have HB := Aside0.mk (Below.refl w.heap.size w)
 have H : ((spec_AllClasses.f k a0).bind fun bt321 => ((impl_AllClasses.f k a0).bind fun bt325 => ((laws_eqDiagonalSS.f k bt325.1 bt321.1).bind fun t329 => (if t329 = true then (laws_FnExactAllClasses.j0 k a0 bt321.1 bt321.2 bt325.1 (bt325.2 != bt321.2)) else (laws_FnExactAllClasses.j0 k a0 bt321.1 bt321.2 bt325.1 true))))) = some r := h
 clear h
 replace H := Option.bind_eq_some_iff.mp H
 obtain ⟨⟨t321, t322⟩, A20, H⟩ := H
 replace H : ((impl_AllClasses.f k a0).bind fun bt325 => ((laws_eqDiagonalSS.f k bt325.1 t321).bind fun t329 => (if t329 = true then (laws_FnExactAllClasses.j0 k a0 t321 t322 bt325.1 (bt325.2 != t322)) else (laws_FnExactAllClasses.j0 k a0 t321 t322 bt325.1 true)))) = some r := H
 have A2 := Aside0.mk A20
 clear A20
 replace H := Option.bind_eq_some_iff.mp H
 obtain ⟨⟨t325, t326⟩, A30, H⟩ := H
 replace H : ((laws_eqDiagonalSS.f k t325 t321).bind fun t329 => (if t329 = true then (laws_FnExactAllClasses.j0 k a0 t321 t322 t325 (t326 != t322)) else (laws_FnExactAllClasses.j0 k a0 t321 t322 t325 true))) = some r := H
 have A3 := Aside0.mk A30
 clear A30
 have HC4 := Aside0.mk H
 clear H
 go_enter Try.func3, Try.ntmps3
 go_upto_region 3 with (first | ((with_reducible refine gate_callee (f := 6) rfl ?_); refine goesL_ (some 13) rfl rfl Try.func6 (by kernel_rfl) rfl #[.int .i64 a0] rfl amp_ ?_; (with_reducible refine (spec_AllClasses.calls k a0 t321 t322 _ A2.out).mono ?_); rintro e w5 ⟨v323, rfl, ho0, hb⟩; refine ⟨_, rfl, ?_⟩; have n0_ := Aside0.mk (Kd.S_lower ho0 (below_size blw_)); have n1_ := Aside0.mk (below_step blw_ hb); clear HB; have HO324 := n0_; have HB := n1_; clear n0_ n1_; (try clear hb); (try clear hb2); (try clear hk); (try clear hi); (try clear ho0)) | ((with_reducible refine gate_callee (f := 7) rfl ?_); refine goesL_ (some 18) rfl rfl Try.func7 (by kernel_rfl) rfl #[.int .i64 a0] rfl amp_ ?_; (with_reducible refine (impl_AllClasses.calls k a0 t325 t326 _ A3.out).mono ?_); rintro e w6 ⟨v327, rfl, ho0, hb⟩; refine ⟨_, rfl, ?_⟩; obtain ⟨N_, hN_⟩ := ss_size hb; have n0_ := Aside0.mk (ss_old (by (with_reducible repeat (first | apply Kd.S_alloc | apply Kd.S_drewN | apply Kd.S_drew)); exact HO324.out) hb hN_); have n1_ := Aside0.mk (Kd.S_lower (ss_new ho0 hN_) (below_size blw_)); have n2_ := Aside0.mk (below_step blw_ hb); clear HO324; clear HB; have HO324 := n0_; have HO328 := n1_; have HB := n2_; clear hN_ n0_ n1_ n2_; (try clear hb); (try clear hb2); (try clear hk); (try clear hi); (try clear ho0)))
 (try simp only [Act.put, List.setIfInBounds_toArray, List.set_cons_zero, List.set_cons_succ])
 go_cut [29] (fun v29 wc => ∃ (kq : Nat) (x29_3 : Bool), v29 = .bool x29_3 ∧ Aside0 (laws_FnExactAllClasses.j0 kq a0 t321 t322 t325 x29_3 = some r) ∧ Aside0 (kq ≤ k) ∧ Aside0 (Kd.S (Kd.slice 52 k52) 41 wc w.heap.size (fun k_ => k_ < N_) v323 t321) ∧ Aside0 (Kd.S (Kd.slice 52 k52) 41 wc w.heap.size (fun k_ => N_ ≤ k_) v327 t325) ∧ Aside0 (Below w.heap.size w wc))
 case first =>
  have H := HC4.out
  clear HC4
  replace H := Option.bind_eq_some_iff.mp H
  obtain ⟨t329, A70, H⟩ := H
  replace H : (if t329 = true then (laws_FnExactAllClasses.j0 k a0 t321 t322 t325 (t326 != t322)) else (laws_FnExactAllClasses.j0 k a0 t321 t322 t325 true)) = some r := H
  have A7 := Aside0.mk A70
  clear A70
  by_cases c8 : t329 = true
  ·subst c8
   have H1 : (laws_FnExactAllClasses.j0 k a0 t321 t322 t325 (t326 != t322)) = some r := by rw [if_pos rfl] at H; exact H
   clear H
   have H := H1
   clear H1
   have H' := Aside0.mk H
   clear H
   obtain ⟨Ao9, co9, eo9⟩ := Kd.S_slice HO328.out
   subst eo9
   obtain ⟨Ao10, co10, eo10⟩ := Kd.S_slice HO324.out
   subst eo10
   go_wp2_with (first | ((with_reducible refine gate_callee (f := 8) rfl ?_); refine goesL_ (some 23) rfl rfl Try.func8 (by kernel_rfl) rfl #[.slice Ao9 t325.length co9, .slice Ao10 t321.length co10] rfl amp_ ?_; (with_reducible refine (laws_eqDiagonalSS.calls k _ _ t325 _ _ t321 true _ ?side1 ?side2 ?side3 ?side4 A7.out).mono ?_); (case side1 => repeat (first | exact (Kd.S_reads' HO328.out).2.2 | (with_reducible refine Kd.C_alloc ?_ _) | (with_reducible refine Kd.C_drewN ?_ _) | (with_reducible refine Kd.C_drew ?_))); (case side2 => exact (Kd.S_reads' HO328.out).2.1); (case side3 => repeat (first | exact (Kd.S_reads' HO324.out).2.2 | (with_reducible refine Kd.C_alloc ?_ _) | (with_reducible refine Kd.C_drewN ?_ _) | (with_reducible refine Kd.C_drew ?_))); (case side4 => exact (Kd.S_reads' HO324.out).2.1); rintro e w11 ⟨rfl, hb⟩; refine ⟨_, rfl, ?_⟩; have n0_ := Aside0.mk (Kd.S_below (by (with_reducible repeat (first | apply Kd.S_alloc | apply Kd.S_drewN | apply Kd.S_drew)); exact HO324.out) hb); have n1_ := Aside0.mk (Kd.S_below (by (with_reducible repeat (first | apply Kd.S_alloc | apply Kd.S_drewN | apply Kd.S_drew)); exact HO328.out) hb); have n2_ := Aside0.mk (below_step blw_ hb); clear HO324; clear HO328; clear HB; have HO324 := n0_; have HO328 := n1_; have HB := n2_; clear n0_ n1_ n2_; (try clear hb); (try clear hb2); (try clear hk); (try clear hi)))
   go_meet
   case rel => exact ⟨_, ((t326 != t322)), (by first | rfl | (simp; done) | (simp [*]; done)), H', ⟨by first | omega | exact Nat.le_refl _⟩, ⟨by (with_reducible repeat (first | apply Kd.S_alloc | apply Kd.S_drewN | apply Kd.S_drew)); exact Kd.S_mono HO324.out (fun _ hk => hk.2)⟩, ⟨by (with_reducible repeat (first | apply Kd.S_alloc | apply Kd.S_drewN | apply Kd.S_drew)); exact Kd.S_mono HO328.out (fun _ hk => hk.2)⟩, ⟨by repeat (first | (with_reducible first | exact HB.out | apply below_alloc | apply pw_below_drewN | apply below_drew1) | exact HB.out)⟩⟩
  ·replace c8 := Bool.eq_false_iff.mpr c8
   subst c8
   have H1 : (laws_FnExactAllClasses.j0 k a0 t321 t322 t325 true) = some r := by rw [if_neg (show ¬ (false = true) by decide)] at H; exact H
   clear H
   have H := H1
   clear H1
   have H' := Aside0.mk H
   clear H
   obtain ⟨Ao12, co12, eo12⟩ := Kd.S_slice HO328.out
   subst eo12
   obtain ⟨Ao13, co13, eo13⟩ := Kd.S_slice HO324.out
   subst eo13
   go_wp2_with (first | ((with_reducible refine gate_callee (f := 8) rfl ?_); refine goesL_ (some 23) rfl rfl Try.func8 (by kernel_rfl) rfl #[.slice Ao12 t325.length co12, .slice Ao13 t321.length co13] rfl amp_ ?_; (with_reducible refine (laws_eqDiagonalSS.calls k _ _ t325 _ _ t321 false _ ?side1 ?side2 ?side3 ?side4 A7.out).mono ?_); (case side1 => repeat (first | exact (Kd.S_reads' HO328.out).2.2 | (with_reducible refine Kd.C_alloc ?_ _) | (with_reducible refine Kd.C_drewN ?_ _) | (with_reducible refine Kd.C_drew ?_))); (case side2 => exact (Kd.S_reads' HO328.out).2.1); (case side3 => repeat (first | exact (Kd.S_reads' HO324.out).2.2 | (with_reducible refine Kd.C_alloc ?_ _) | (with_reducible refine Kd.C_drewN ?_ _) | (with_reducible refine Kd.C_drew ?_))); (case side4 => exact (Kd.S_reads' HO324.out).2.1); rintro e w14 ⟨rfl, hb⟩; refine ⟨_, rfl, ?_⟩; have n0_ := Aside0.mk (Kd.S_below (by (with_reducible repeat (first | apply Kd.S_alloc | apply Kd.S_drewN | apply Kd.S_drew)); exact HO324.out) hb); have n1_ := Aside0.mk (Kd.S_below (by (with_reducible repeat (first | apply Kd.S_alloc | apply Kd.S_drewN | apply Kd.S_drew)); exact HO328.out) hb); have n2_ := Aside0.mk (below_step blw_ hb); clear HO324; clear HO328; clear HB; have HO324 := n0_; have HO328 := n1_; have HB := n2_; clear n0_ n1_ n2_; (try clear hb); (try clear hb2); (try clear hk); (try clear hi)))
   go_meet
   case rel => exact ⟨_, (true), (by first | rfl | (simp; done) | (simp [*]; done)), H', ⟨by first | omega | exact Nat.le_refl _⟩, ⟨by (with_reducible repeat (first | apply Kd.S_alloc | apply Kd.S_drewN | apply Kd.S_drew)); exact Kd.S_mono HO324.out (fun _ hk => hk.2)⟩, ⟨by (with_reducible repeat (first | apply Kd.S_alloc | apply Kd.S_drewN | apply Kd.S_drew)); exact Kd.S_mono HO328.out (fun _ hk => hk.2)⟩, ⟨by repeat (first | (with_reducible first | exact HB.out | apply below_alloc | apply pw_below_drewN | apply below_drew1) | exact HB.out)⟩⟩
 case rest =>
  clear HC4
  try clear p2
  try clear c3
  try clear c6
  try clear c7
  try clear c8
  obtain ⟨kq, x29_3, rfl, HA, HJ3, HO_3, HO_5, HB⟩ := hcut
  cases kq with
  | zero => exact absurd HA.out (by simp [laws_FnExactAllClasses.j0])
  | succ kj3 =>
   have H := HA.out
   clear HA
   simp only [laws_FnExactAllClasses.j0] at H
   by_cases c15 : x29_3 = true
   ·subst c15
    have H1 : (some false) = some r := by rw [if_pos rfl] at H; exact H
    clear H
    have H := H1
    clear H1
    exact absurd (H.trans (congrArg some htrue.out)) (by decide)
   ·replace c15 := Bool.eq_false_iff.mpr c15
    subst c15
    have H1 : ((laws_markDiagonalSS.f kj3 t325 1).bind fun bt330 => ((laws_heldDiagonalSS.f kj3 bt330.2 1).bind fun t332 => (if t332 < 0 then (some false) else (if t332 = bt330.1 then ((impl_AllClasses.f kj3 a0).bind fun bt333 => ((laws_eqDiagonalSS.f kj3 bt333.1 t321).bind fun t337 => (if t337 = true then (laws_FnExactAllClasses.j1 kj3 bt330.2 bt330.1 (bt333.2 != t322)) else (laws_FnExactAllClasses.j1 kj3 bt330.2 bt330.1 true)))) else (some false))))) = some r := by rw [if_neg (show ¬ (false = true) by decide)] at H; exact H
    clear H
    have H := H1
    clear H1
    replace H := Option.bind_eq_some_iff.mp H
    obtain ⟨⟨t330, t331⟩, A160, H⟩ := H
    replace H : ((laws_heldDiagonalSS.f kj3 t331 1).bind fun t332 => (if t332 < 0 then (some false) else (if t332 = t330 then ((impl_AllClasses.f kj3 a0).bind fun bt333 => ((laws_eqDiagonalSS.f kj3 bt333.1 t321).bind fun t337 => (if t337 = true then (laws_FnExactAllClasses.j1 kj3 t331 t330 (bt333.2 != t322)) else (laws_FnExactAllClasses.j1 kj3 t331 t330 true)))) else (some false)))) = some r := H
    have A16 := Aside0.mk A160
    clear A160
    replace H := Option.bind_eq_some_iff.mp H
    obtain ⟨t332, A170, H⟩ := H
    replace H : (if t332 < 0 then (some false) else (if t332 = t330 then ((impl_AllClasses.f kj3 a0).bind fun bt333 => ((laws_eqDiagonalSS.f kj3 bt333.1 t321).bind fun t337 => (if t337 = true then (laws_FnExactAllClasses.j1 kj3 t331 t330 (bt333.2 != t322)) else (laws_FnExactAllClasses.j1 kj3 t331 t330 true)))) else (some false))) = some r := H
    have A17 := Aside0.mk A170
    clear A170
    by_cases c18 : t332 < 0
    ·rw [if_pos c18] at H
     have c18b0 : decide (t332 < 0) = true := decide_eq_true c18
     clear c18
     exact absurd (H.trans (congrArg some htrue.out)) (by decide)
    ·rw [if_neg c18] at H
     have c18b0 : decide (t332 < 0) = false := decide_eq_false c18
     clear c18
     by_cases c19 : t332 = t330
     ·rw [if_pos c19] at H
      have c19b0 : (t332 == t330) = true := beq_iff_eq.mpr c19
      have c19b1 : (t332 != t330) = false := bne_eq_false_iff_eq.mpr c19
      clear c19
      replace H := Option.bind_eq_some_iff.mp H
      obtain ⟨⟨t333, t334⟩, A200, H⟩ := H
      replace H : ((laws_eqDiagonalSS.f kj3 t333 t321).bind fun t337 => (if t337 = true then (laws_FnExactAllClasses.j1 kj3 t331 t330 (t334 != t322)) else (laws_FnExactAllClasses.j1 kj3 t331 t330 true))) = some r := H
      have A20 := Aside0.mk A200
      clear A200
      have HC21 := Aside0.mk H
      clear H
      obtain ⟨Ao22, co22, eo22⟩ := Kd.S_slice HO_5.out
      subst eo22
      go_upto_region 14 with (first | ((with_reducible refine gate_callee (f := 9) rfl ?_); refine goesL_ (some 32) rfl rfl Try.func9 (by kernel_rfl) rfl #[.slice Ao22 t325.length co22, .int .i64 1] rfl amp_ ?_; (with_reducible refine (laws_markDiagonalSS.calls kj3 (fun k_ => N_ ≤ k_) (.slice Ao22 t325.length co22) t325 1 t330 t331 w _ ?side1 ?side2 A16.out).mono ?_); (case side1 => repeat (first | (with_reducible first | exact HB.out | apply below_alloc | apply pw_below_drewN | apply below_drew1) | exact HB.out)); (case side2 => exact HO_5.out); rintro e w23 ⟨rfl, hy0, hb, hkp⟩; refine ⟨_, rfl, ?_⟩; have n0_ := Aside0.mk (Kd.S_mono (ok' := fun k_ => k_ < N_) (Kd.S_keptB (HO_3.out) hkp (fun k_ hk_ hs_ => absurd hs_ (Nat.not_le_of_lt hk_))) (fun k_ hk_ => hk_.1)); have n1_ := Aside0.mk hy0; have n2_ := Aside0.mk (hb); clear HO_3; clear HO_5; clear HB; have HO_3 := n0_; have HO_5 := n1_; have HB := n2_; clear n0_ n1_ n2_; (try clear hb); (try clear hkp); (try clear hy0)) | ((with_reducible refine gate_callee (f := 10) rfl ?_); refine goesL_ (some 35) rfl rfl Try.func10 (by kernel_rfl) rfl #[.slice Ao22 t331.length co22, .int .i64 1] rfl (by (try simp only [List.map_toArray, List.map_cons, List.map_nil]); first | done | (rw [show t331.length = t325.length from (Kd.S_reads' HO_5.out).1.symm] <;> rfl) | rfl | (simp only [List.length_drop, List.length_take]; rfl)) ?_; (with_reducible refine (laws_heldDiagonalSS.calls kj3 _ _ t331 1 t332 _ ?side1 ?side2 A17.out).mono ?_); (case side1 => repeat (first | exact (Kd.S_reads' HO_5.out).2.2 | (with_reducible refine Kd.C_alloc ?_ _) | (with_reducible refine Kd.C_drewN ?_ _) | (with_reducible refine Kd.C_drew ?_))); (case side2 => rw [show t331.length = t325.length from (Kd.S_reads' HO_5.out).1.symm]; exact (Kd.S_reads' HO_5.out).2.1); rintro e w' ⟨rfl, ⟨nd, rfl⟩⟩; refine ⟨_, rfl, ?_⟩) | ((with_reducible refine gate_callee (f := 7) rfl ?_); refine goesL_ (some 43) rfl rfl Try.func7 (by kernel_rfl) rfl #[.int .i64 a0] rfl amp_ ?_; (with_reducible refine (impl_AllClasses.calls kj3 a0 t333 t334 _ A20.out).mono ?_); rintro e w24 ⟨v335, rfl, ho0, hb⟩; refine ⟨_, rfl, ?_⟩; have n0_ := Aside0.mk (Kd.S_elder' (by (with_reducible repeat (first | apply Kd.S_alloc | apply Kd.S_drewN | apply Kd.S_drew)); exact HO_3.out) (Kd.S_base ho0) hb); have n1_ := Aside0.mk (Kd.S_elder' (by (with_reducible repeat (first | apply Kd.S_alloc | apply Kd.S_drewN | apply Kd.S_drew)); exact HO_5.out) (Kd.S_base ho0) hb); have n2_ := Aside0.mk (Kd.S_lower (Kd.S_new' (Kd.S_new' ho0 (Kd.S_lt (by (with_reducible repeat (first | apply Kd.S_alloc | apply Kd.S_drewN | apply Kd.S_drew)); exact HO_3.out))) (Kd.S_lt (by (with_reducible repeat (first | apply Kd.S_alloc | apply Kd.S_drewN | apply Kd.S_drew)); exact HO_5.out))) (below_size blw_)); have n3_ := Aside0.mk (below_step blw_ hb); clear HO_3; clear HO_5; clear HB; have HO_3 := n0_; have HO_5 := n1_; have HO336 := n2_; have HB := n3_; clear n0_ n1_ n2_ n3_; (try clear hb); (try clear hb2); (try clear hk); (try clear hi); (try clear ho0)))
      (try simp only [Act.put, List.setIfInBounds_toArray, List.set_cons_zero, List.set_cons_succ])
      go_cut [54] (fun v54 wc => ∃ (kq : Nat) (x54_20 : Bool), v54 = .bool x54_20 ∧ Aside0 (laws_FnExactAllClasses.j1 kq t331 t330 x54_20 = some r) ∧ Aside0 (kq ≤ kj3) ∧ Aside0 (Kd.S (Kd.slice 52 k52) 41 wc w.heap.size (fun _ => True) (.slice Ao22 t325.length co22) t331) ∧ Aside0 (Below w.heap.size w wc))
      case first =>
       have H := HC21.out
       clear HC21
       replace H := Option.bind_eq_some_iff.mp H
       obtain ⟨t337, A250, H⟩ := H
       replace H : (if t337 = true then (laws_FnExactAllClasses.j1 kj3 t331 t330 (t334 != t322)) else (laws_FnExactAllClasses.j1 kj3 t331 t330 true)) = some r := H
       have A25 := Aside0.mk A250
       clear A250
       by_cases c26 : t337 = true
       ·subst c26
        have H1 : (laws_FnExactAllClasses.j1 kj3 t331 t330 (t334 != t322)) = some r := by rw [if_pos rfl] at H; exact H
        clear H
        have H := H1
        clear H1
        have H' := Aside0.mk H
        clear H
        obtain ⟨Ao27, co27, eo27⟩ := Kd.S_slice HO336.out
        subst eo27
        obtain ⟨Ao28, co28, eo28⟩ := Kd.S_slice HO_3.out
        subst eo28
        go_wp2_with (first | ((with_reducible refine gate_callee (f := 8) rfl ?_); refine goesL_ (some 48) rfl rfl Try.func8 (by kernel_rfl) rfl #[.slice Ao27 t333.length co27, .slice Ao28 t321.length co28] rfl amp_ ?_; (with_reducible refine (laws_eqDiagonalSS.calls kj3 _ _ t333 _ _ t321 true _ ?side1 ?side2 ?side3 ?side4 A25.out).mono ?_); (case side1 => repeat (first | exact (Kd.S_reads' HO336.out).2.2 | (with_reducible refine Kd.C_alloc ?_ _) | (with_reducible refine Kd.C_drewN ?_ _) | (with_reducible refine Kd.C_drew ?_))); (case side2 => exact (Kd.S_reads' HO336.out).2.1); (case side3 => repeat (first | exact (Kd.S_reads' HO_3.out).2.2 | (with_reducible refine Kd.C_alloc ?_ _) | (with_reducible refine Kd.C_drewN ?_ _) | (with_reducible refine Kd.C_drew ?_))); (case side4 => exact (Kd.S_reads' HO_3.out).2.1); rintro e w29 ⟨rfl, hb⟩; refine ⟨_, rfl, ?_⟩; have n0_ := Aside0.mk (Kd.S_below (by (with_reducible repeat (first | apply Kd.S_alloc | apply Kd.S_drewN | apply Kd.S_drew)); exact HO_3.out) hb); have n1_ := Aside0.mk (Kd.S_below (by (with_reducible repeat (first | apply Kd.S_alloc | apply Kd.S_drewN | apply Kd.S_drew)); exact HO_5.out) hb); have n2_ := Aside0.mk (Kd.S_below (by (with_reducible repeat (first | apply Kd.S_alloc | apply Kd.S_drewN | apply Kd.S_drew)); exact HO336.out) hb); have n3_ := Aside0.mk (below_step blw_ hb); clear HO_3; clear HO_5; clear HO336; clear HB; have HO_3 := n0_; have HO_5 := n1_; have HO336 := n2_; have HB := n3_; clear n0_ n1_ n2_ n3_; (try clear hb); (try clear hb2); (try clear hk); (try clear hi)))
        go_meet
        case rel => exact ⟨_, ((t334 != t322)), (by first | rfl | (simp; done) | (simp [*]; done)), H', ⟨by have := HJ3.out; first | omega | exact Nat.le_refl _⟩, ⟨by (with_reducible repeat (first | apply Kd.S_alloc | apply Kd.S_drewN | apply Kd.S_drew)); exact Kd.S_mono HO_5.out (fun _ hk => trivial)⟩, ⟨by repeat (first | (with_reducible first | exact HB.out | apply below_alloc | apply pw_below_drewN | apply below_drew1) | exact HB.out)⟩⟩
       ·replace c26 := Bool.eq_false_iff.mpr c26
        subst c26
        have H1 : (laws_FnExactAllClasses.j1 kj3 t331 t330 true) = some r := by rw [if_neg (show ¬ (false = true) by decide)] at H; exact H
        clear H
        have H := H1
        clear H1
        have H' := Aside0.mk H
        clear H
        obtain ⟨Ao30, co30, eo30⟩ := Kd.S_slice HO336.out
        subst eo30
        obtain ⟨Ao31, co31, eo31⟩ := Kd.S_slice HO_3.out
        subst eo31
        go_wp2_with (first | ((with_reducible refine gate_callee (f := 8) rfl ?_); refine goesL_ (some 48) rfl rfl Try.func8 (by kernel_rfl) rfl #[.slice Ao30 t333.length co30, .slice Ao31 t321.length co31] rfl amp_ ?_; (with_reducible refine (laws_eqDiagonalSS.calls kj3 _ _ t333 _ _ t321 false _ ?side1 ?side2 ?side3 ?side4 A25.out).mono ?_); (case side1 => repeat (first | exact (Kd.S_reads' HO336.out).2.2 | (with_reducible refine Kd.C_alloc ?_ _) | (with_reducible refine Kd.C_drewN ?_ _) | (with_reducible refine Kd.C_drew ?_))); (case side2 => exact (Kd.S_reads' HO336.out).2.1); (case side3 => repeat (first | exact (Kd.S_reads' HO_3.out).2.2 | (with_reducible refine Kd.C_alloc ?_ _) | (with_reducible refine Kd.C_drewN ?_ _) | (with_reducible refine Kd.C_drew ?_))); (case side4 => exact (Kd.S_reads' HO_3.out).2.1); rintro e w32 ⟨rfl, hb⟩; refine ⟨_, rfl, ?_⟩; have n0_ := Aside0.mk (Kd.S_below (by (with_reducible repeat (first | apply Kd.S_alloc | apply Kd.S_drewN | apply Kd.S_drew)); exact HO_3.out) hb); have n1_ := Aside0.mk (Kd.S_below (by (with_reducible repeat (first | apply Kd.S_alloc | apply Kd.S_drewN | apply Kd.S_drew)); exact HO_5.out) hb); have n2_ := Aside0.mk (Kd.S_below (by (with_reducible repeat (first | apply Kd.S_alloc | apply Kd.S_drewN | apply Kd.S_drew)); exact HO336.out) hb); have n3_ := Aside0.mk (below_step blw_ hb); clear HO_3; clear HO_5; clear HO336; clear HB; have HO_3 := n0_; have HO_5 := n1_; have HO336 := n2_; have HB := n3_; clear n0_ n1_ n2_ n3_; (try clear hb); (try clear hb2); (try clear hk); (try clear hi)))
        go_meet
        case rel => exact ⟨_, (true), (by first | rfl | (simp; done) | (simp [*]; done)), H', ⟨by have := HJ3.out; first | omega | exact Nat.le_refl _⟩, ⟨by (with_reducible repeat (first | apply Kd.S_alloc | apply Kd.S_drewN | apply Kd.S_drew)); exact Kd.S_mono HO_5.out (fun _ hk => trivial)⟩, ⟨by repeat (first | (with_reducible first | exact HB.out | apply below_alloc | apply pw_below_drewN | apply below_drew1) | exact HB.out)⟩⟩
      case rest =>
       clear HC21
       try clear c1
       try clear c2
       try clear p2
       try clear c3
       try clear c6
       try clear c7
       try clear c8
       try clear c9
       try clear c10
       try clear c15
       try clear c18
       try clear c18b0
       try clear c19
       try clear c19b0
       try clear c19b1
       try clear c26
       try clear p2
       obtain ⟨kq, x54_20, rfl, HA, HJ20, HO_5, HB⟩ := hcut
       have hl5_20 := (Kd.S_reads' HO_5.out).1
       rw [hl5_20] at HO_5
       (try simp only [hl5_20])
       cases kq with
       | zero => exact absurd HA.out (by simp [laws_FnExactAllClasses.j1])
       | succ kj20 =>
        have H := HA.out
        clear HA
        simp only [laws_FnExactAllClasses.j1] at H
        by_cases c33 : x54_20 = true
        ·subst c33
         have H1 : (some false) = some r := by rw [if_pos rfl] at H; exact H
         clear H
         have H := H1
         clear H1
         exact absurd (H.trans (congrArg some htrue.out)) (by decide)
        ·replace c33 := Bool.eq_false_iff.mpr c33
         subst c33
         have H1 : ((laws_heldDiagonalSS.f kj20 t331 1).bind fun t338 => (if t338 < 0 then (some false) else (if t338 = t330 then (some true) else (some false)))) = some r := by rw [if_neg (show ¬ (false = true) by decide)] at H; exact H
         clear H
         have H := H1
         clear H1
         replace H := Option.bind_eq_some_iff.mp H
         obtain ⟨t338, A340, H⟩ := H
         replace H : (if t338 < 0 then (some false) else (if t338 = t330 then (some true) else (some false))) = some r := H
         have A34 := Aside0.mk A340
         clear A340
         by_cases c35 : t338 < 0
         ·rw [if_pos c35] at H
          have c35b0 : decide (t338 < 0) = true := decide_eq_true c35
          clear c35
          exact absurd (H.trans (congrArg some htrue.out)) (by decide)
         ·rw [if_neg c35] at H
          have c35b0 : decide (t338 < 0) = false := decide_eq_false c35
          clear c35
          by_cases c36 : t338 = t330
          ·rw [if_pos c36] at H
           have c36b0 : (t338 == t330) = true := beq_iff_eq.mpr c36
           have c36b1 : (t338 != t330) = false := bne_eq_false_iff_eq.mpr c36
           clear c36
           obtain rfl := Option.some.inj H
           go_wp2_with (first | ((with_reducible refine gate_callee (f := 10) rfl ?_); refine goesL_ (some 57) rfl rfl Try.func10 (by kernel_rfl) rfl #[.slice Ao22 t331.length co22, .int .i64 1] rfl amp_ ?_; (with_reducible refine (laws_heldDiagonalSS.calls kj20 _ _ t331 1 t338 _ ?side1 ?side2 A34.out).mono ?_); (case side1 => repeat (first | exact (Kd.S_reads' HO_5.out).2.2 | (with_reducible refine Kd.C_alloc ?_ _) | (with_reducible refine Kd.C_drewN ?_ _) | (with_reducible refine Kd.C_drew ?_))); (case side2 => exact (Kd.S_reads' HO_5.out).2.1); rintro e w' ⟨rfl, ⟨nd, rfl⟩⟩; refine ⟨_, rfl, ?_⟩))
           go_ret
           exact ⟨by first | rfl | (simp [errW_none, errW_some] <;> rfl) | (simp [*, errW_none, errW_some] <;> rfl), by repeat (first | (with_reducible first | exact HB.out | apply below_alloc | apply pw_below_drewN | apply below_drew1) | exact HB.out)⟩
          ·rw [if_neg c36] at H
           have c36b0 : (t338 == t330) = false := beq_eq_false_iff_ne.mpr c36
           have c36b1 : (t338 != t330) = true := bne_iff_ne.mpr c36
           exact absurd (H.trans (congrArg some htrue.out)) (by decide)
     ·rw [if_neg c19] at H
      have c19b0 : (t332 == t330) = false := beq_eq_false_iff_ne.mpr c19
      have c19b1 : (t332 != t330) = true := bne_iff_ne.mpr c19
      exact absurd (H.trans (congrArg some htrue.out)) (by decide)

/-- THE ONE PURE STATEMENT of laws_FnExactAllClasses: yours. -/
def laws_FnExactAllClasses.Pure : Prop := ∀ (a0 : Int), (Lit.int .i64 a0).wf = true → ∃ k, laws_FnExactAllClasses.f k a0 = some true
theorem laws_FnExactAllClasses.walk (P : laws_FnExactAllClasses.Pure) (a0 : Int) (w : World) (w0 : (Lit.int .i64 a0).wf = true) :
  Calls Try.prog 3 #[.int .i64 a0] w fun e w' => e = .returned (.bool true) ∧ Below w.heap.size w w' := by
 obtain ⟨k, h⟩ := P a0 w0
 refine (laws_FnExactAllClasses.calls k a0 true w h).mono ?_
 rintro e w' ⟨rfl, hd⟩
 exact ⟨rfl, hd⟩

end Go.Proofs.Ytgblginphicacaa.PFnExactAllClasses
