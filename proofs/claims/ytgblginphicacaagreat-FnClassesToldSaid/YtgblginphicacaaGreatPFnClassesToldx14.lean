-- WRITTEN BY A PROGRAM OF THIS WORK (wip/tools/ppatch.py) for this claim.
import Derived.Test.YtgblginphicacaaGreatPFnClassesToldx0
import Derived.Test.YtgblginphicacaaGreatPFnClassesToldx1
import Derived.Test.YtgblginphicacaaGreatPFnClassesToldx5
import Derived.Test.YtgblginphicacaaGreatPFnClassesToldx6
import Derived.Test.YtgblginphicacaaGreatPFnClassesToldx8
import Derived.Test.YtgblginphicacaaGreatPFnClassesToldx9
import Derived.Test.YtgblginphicacaaGreatPFnClassesToldx11
import Derived.Test.YtgblginphicacaaGreatPFnClassesToldx12
import Derived.Test.YtgblginphicacaaGreatPFnClassesToldx13
namespace Go.Proofs.YtgblginphicacaaGreat.PFnClassesTold
open Go.RowKit Go.Proofs.YtgblginphicacaaGreatW.PrintWords Go.Proofs.YtgblginphicacaaGreatW.PrintLast Go.Proofs.YtgblginphicacaaGreatW.PrintMore
set_option maxHeartbeats 8000000
set_option maxRecDepth 100000
attribute [local go_sem] yT yV vX vY jX jY yU yX   -- for this text's walks alone
set_option linter.unusedVariables false
set_option linter.unusedSimpArgs false

attribute [local go_sem high] eqA62
/-! ### xg: function 7 -/
def xg.f (k : Nat) (a0 : Int) : Option ((List (List (S62))) × Bool) := (zR.f a0).bind fun aa => (if aa = true then ((zZ.f k a0).bind fun ab => (some (ab, true))) else (some (([] : List (List (S62))), false)))
theorem xg.calls (k : Nat) (a0 : Int) (r1 : List (List (S62))) (r2 : Bool) (w : World) (h : xg.f k a0 = some (r1, r2)) :
  Calls Tryz.prog 7 #[.int .i64 a0] w fun e w' => ∃ v0_ : Value, e = .returned (.tuple #[v0_, .bool r2]) ∧ Kd.S (Kd.slice 62 k62) 32 w' w.heap.size (fun _ => True) v0_ r1 ∧ Below w.heap.size w w' := by
 have HB := qa.mk (Below.refl w.heap.size w);have H := h;unfold xg.f at H;clear h;replace H := bd_ H;obtain ⟨ac, A2, H⟩ := H;replace H := yL H;rcases H with ⟨rfl, H⟩ | ⟨rfl, H⟩
 ·replace H := bd_ H;obtain ⟨ab, A4, H⟩ := H;simp only [Option.some.injEq, Prod.mk.injEq] at H;obtain ⟨rfl, rfl⟩ := H;go_enter Tryz.func7, Tryz.ntmps7;go_wp2_with (first | ((with_reducible refine gt_ 44 ?_); refine gc_ 44 5 (zR.calls a0 true _ A2.out) ?_; rintro _ w' ⟨rfl, nd, rfl⟩; refine ⟨_, rfl, ?_⟩) | ((with_reducible refine gt_ 45 ?_); refine gc_ 45 8 (zZ.calls k a0 ab _ A4.out) ?_; rintro _ w5 ⟨ae, rfl, ho0, hb⟩; refine ⟨_, rfl, ?_⟩; have aa := qa.mk (Kd.kN ho0 zw); replace HB := bs_ hb));go_ret2;exact ⟨_, rs_, sa_ aa.out, qX⟩
 ·simp only [Option.some.injEq, Prod.mk.injEq] at H;obtain ⟨rfl, rfl⟩ := H;go_enter Tryz.func7, Tryz.ntmps7;go_wp2_with (first | ((with_reducible refine gt_ 44 ?_); refine gc_ 44 5 (zR.calls a0 false _ A2.out) ?_; rintro _ w' ⟨rfl, nd, rfl⟩; refine ⟨_, rfl, ?_⟩));go_ret2;exact ⟨_, rs_, by first | exact Kd.S_nil _ _ _ _ _ | exact Kd.N_nil _ _ _ _ _ | exact Kd.V_nil _ _ _ _ _ | exact Kd.Q_nil _ _ _ _ _ | exact Kd.QN _ _ _ _ _, qX⟩

/-! ### zM: function 8 -/



/-- Is it the first one? -/
def zM.keep (k : Nat) (n : Int) (x : List S62) : Option Bool := (zA.f k n x).bind fun y => qH.f k y x
theorem zM.ZF (k : Nat) (n : Int) (x : List S62) : LeO (zM.keep k n x) (zM.keep (k + 1) n x) := LeO.bind (zA.mono _ _ _) (fun _ => qH.mono _ _ _)
def zM.f (k : Nat) (a0 : Int) : Option (Int × Bool) := (qw.f a0).bind fun b => if b = true then ((z8.f k a0).bind fun ts => (kZ (zM.keep k a0) ts).bind fun l => some ((l.length : Int), true)) else some (0, false)
set_option maxHeartbeats 4000000 in
set_option maxRecDepth 100000 in
theorem zM.calls (k : Nat) (a0 : Int) (r1 : Int) (r2 : Bool) (w : World) (h : zM.f k a0 = some (r1, r2)) :
  Calls Tryz.prog 8 #[.int .i64 a0] w fun e w' => e = .returned (.tuple #[.int .i64 r1, .bool r2]) ∧ Below w.heap.size w w' := by
 have H := h;unfold zM.f at H;clear h;obtain ⟨b, hb, H⟩ := Option.bind_eq_some_iff.mp H;cases b with
 | false =>
  rw [if_neg (by simp)] at H;injection H with H;injection H with e1 e2;subst e1; subst e2;have HT := qa.mk hb;clear hb;go_enter Tryz.func8, Tryz.ntmps8;go_wp2_with (go_at_call 40; refine (qw.calls a0 false _ HT.out).mono ?_; rintro e w5 ⟨rfl, hb⟩; have HB2 := qa.mk (show Below w.heap.size w w5 from by first | exact hb | exact zh.below hb); clear hb);go_ret2;exact ⟨rfl, HB2.out⟩
 | true =>
  rw [if_pos rfl] at H;obtain ⟨ts, ht, H⟩ := Option.bind_eq_some_iff.mp H;obtain ⟨l, hl, H⟩ := Option.bind_eq_some_iff.mp H;injection H with H;injection H with e1 e2;subst e1; subst e2;obtain ⟨hall, rfl⟩ := kP hl
  have hkey : ∀ W : World, Calls Tryz.prog 42 #[.int .i64 a0, .func (.func 43) #[] #[]] W fun e w' => ∃ v0_ : Value, e = .returned v0_ ∧ Kd.S (Kd.slice 62 k62) 32 w' W.heap.size (fun _ => True) v0_ (ts.filter fun x => (zM.keep k a0 x).getD false) ∧ Below W.heap.size W w' := by
   intro W;refine Q3 k a0 ts (zM.keep k a0) 43 #[] W ht hall ?_;intro W2 go gn A c x b _ hk hgo hgn _ hC hc;obtain ⟨y, hy, he⟩ := Option.bind_eq_some_iff.mp hk;exact kg k a0 x y b 43 #[] (enters_of Tryz.func43 (by kernel_rfl) rfl) W2 go gn A c hgo hgn hC hc (zA.calls k a0 A c x y W2 hC hc hy) he
  have HT := qa.mk hb;have HK := qa.mk hkey;clear hb ht hall hkey hl;go_enter Tryz.func8, Tryz.ntmps8;go_wp2_with (first
   | (go_at_call 40; refine (qw.calls a0 true _ HT.out).mono ?_; rintro e w5 ⟨rfl, hb⟩; have HB2 := qa.mk (show Below w.heap.size w w5 from by first | exact hb | exact zh.below hb); clear hb)
   | (go_at_call 42; refine (HK.out _).mono ?_; rintro e w8 ⟨v8, rfl, ho8, hb8⟩; obtain ⟨A8, c8, rfl⟩ := Kd.wN ho8; have HB8 := qa.mk hb8; clear ho8 hb8))
  go_ret2;exact ⟨rfl, y7 HB2.out (qz HB2.out) HB8.out⟩

/-! ### vH: function 9 -/
def vH.f (k : Nat) (a0 : Int) : Option (Int × Bool) := (zR.f a0).bind fun aa => (if aa = true then ((zZ.f k a0).bind fun ab => (some ((ab.length : Int), true))) else (some (0, false)))
theorem vH.calls (k : Nat) (a0 : Int) (r1 : Int) (r2 : Bool) (w : World) (h : vH.f k a0 = some (r1, r2)) :
  Calls Tryz.prog 9 #[.int .i64 a0] w fun e w' => e = .returned (.tuple #[.int .i64 r1, .bool r2]) ∧ Below w.heap.size w w' := by
 have HB := qa.mk (Below.refl w.heap.size w);have H := h;unfold vH.f at H;clear h;replace H := bd_ H;obtain ⟨ac, A2, H⟩ := H;replace H := yL H;rcases H with ⟨rfl, H⟩ | ⟨rfl, H⟩
 ·replace H := bd_ H;obtain ⟨ab, A4, H⟩ := H;simp only [Option.some.injEq, Prod.mk.injEq] at H;obtain ⟨rfl, rfl⟩ := H;go_enter Tryz.func9, Tryz.ntmps9;go_wp2_with (first | ((with_reducible refine gt_ 44 ?_); refine gc_ 44 5 (zR.calls a0 true _ A2.out) ?_; rintro _ w' ⟨rfl, nd, rfl⟩; refine ⟨_, rfl, ?_⟩) | ((with_reducible refine gt_ 45 ?_); refine gc_ 45 8 (zZ.calls k a0 ab _ A4.out) ?_; rintro _ w5 ⟨ae, rfl, ho0, hb⟩; refine ⟨_, rfl, ?_⟩; have aa := qa.mk (Kd.kN ho0 zw); replace HB := bs_ hb; obtain ⟨Ao6, co6, eo6⟩ := Kd.wN aa.out; subst eo6));go_ret2;exact er_
 ·simp only [Option.some.injEq, Prod.mk.injEq] at H;obtain ⟨rfl, rfl⟩ := H;go_enter Tryz.func9, Tryz.ntmps9;go_wp2_with (first | ((with_reducible refine gt_ 44 ?_); refine gc_ 44 5 (zR.calls a0 false _ A2.out) ?_; rintro _ w' ⟨rfl, nd, rfl⟩; refine ⟨_, rfl, ?_⟩));go_ret2;exact er_

/-! ### zW: function 10 -/



/-- Is it the first one? -/
def zW.keep (k : Nat) (n : Int) (x : List S62) : Option Bool := (qx.f k n x).bind fun y => qH.f k y x
theorem zW.ZF (k : Nat) (n : Int) (x : List S62) : LeO (zW.keep k n x) (zW.keep (k + 1) n x) := LeO.bind (qx.mono _ _ _) (fun _ => qH.mono _ _ _)
def zW.f (k : Nat) (a0 : Int) : Option (Int × Bool) := (qw.f a0).bind fun b => if b = true then ((z8.f k a0).bind fun ts => (kZ (zW.keep k a0) ts).bind fun l => some ((l.length : Int), true)) else some (0, false)
set_option maxHeartbeats 4000000 in
set_option maxRecDepth 100000 in
theorem zW.calls (k : Nat) (a0 : Int) (r1 : Int) (r2 : Bool) (w : World) (h : zW.f k a0 = some (r1, r2)) :
  Calls Tryz.prog 10 #[.int .i64 a0] w fun e w' => e = .returned (.tuple #[.int .i64 r1, .bool r2]) ∧ Below w.heap.size w w' := by
 have H := h;unfold zW.f at H;clear h;obtain ⟨b, hb, H⟩ := Option.bind_eq_some_iff.mp H;cases b with
 | false =>
  rw [if_neg (by simp)] at H;injection H with H;injection H with e1 e2;subst e1; subst e2;have HT := qa.mk hb;clear hb;go_enter Tryz.func10, Tryz.ntmps10;go_wp2_with (go_at_call 40; refine (qw.calls a0 false _ HT.out).mono ?_; rintro e w5 ⟨rfl, hb⟩; have HB2 := qa.mk (show Below w.heap.size w w5 from by first | exact hb | exact zh.below hb); clear hb);go_ret2;exact ⟨rfl, HB2.out⟩
 | true =>
  rw [if_pos rfl] at H;obtain ⟨ts, ht, H⟩ := Option.bind_eq_some_iff.mp H;obtain ⟨l, hl, H⟩ := Option.bind_eq_some_iff.mp H;injection H with H;injection H with e1 e2;subst e1; subst e2;obtain ⟨hall, rfl⟩ := kP hl
  have hkey : ∀ W : World, Calls Tryz.prog 42 #[.int .i64 a0, .func (.func 46) #[] #[]] W fun e w' => ∃ v0_ : Value, e = .returned v0_ ∧ Kd.S (Kd.slice 62 k62) 32 w' W.heap.size (fun _ => True) v0_ (ts.filter fun x => (zW.keep k a0 x).getD false) ∧ Below W.heap.size W w' := by
   intro W;refine Q3 k a0 ts (zW.keep k a0) 46 #[] W ht hall ?_;intro W2 go gn A c x b _ hk hgo hgn _ hC hc;obtain ⟨y, hy, he⟩ := Option.bind_eq_some_iff.mp hk;exact kg k a0 x y b 46 #[] (enters_of Tryz.func46 (by kernel_rfl) rfl) W2 go gn A c hgo hgn hC hc (qx.calls k a0 A c x y W2 hC hc hy) he
  have HT := qa.mk hb;have HK := qa.mk hkey;clear hb ht hall hkey hl;go_enter Tryz.func10, Tryz.ntmps10;go_wp2_with (first
   | (go_at_call 40; refine (qw.calls a0 true _ HT.out).mono ?_; rintro e w5 ⟨rfl, hb⟩; have HB2 := qa.mk (show Below w.heap.size w w5 from by first | exact hb | exact zh.below hb); clear hb)
   | (go_at_call 42; refine (HK.out _).mono ?_; rintro e w8 ⟨v8, rfl, ho8, hb8⟩; obtain ⟨A8, c8, rfl⟩ := Kd.wN ho8; have HB8 := qa.mk hb8; clear ho8 hb8))
  go_ret2;exact ⟨rfl, y7 HB2.out (qz HB2.out) HB8.out⟩

/-! ### zT: function 11 -/
def zT.l0 : Nat → Int → Int → List (List (S62)) → Int → Int → Option (Int × Bool)
 | 0, _, _, _, _, _ => none
 | k + 1, x0, x4, x11, x12, x13 => if x13 < x12 then (if 0 ≤ x13 then (if x13 < (x11.length : Int) then ((qQ.f k x0 (yA x11 x13)).bind fun aa => ((zk.f k aa (yA x11 x13)).bind fun ab => (if ab = true then (zT.l0 k x0 (wrap64 (x4 + 1)) x11 x12 (wrap64 (x13 + 1))) else (zT.l0 k x0 x4 x11 x12 (wrap64 (x13 + 1)))))) else (none)) else (none)) else (some (x4, true))
def zT.f (k : Nat) (a0 : Int) : Option (Int × Bool) := (zR.f a0).bind fun ab => (if ab = true then ((xJ.f a0).bind fun aa => (zT.l0 k a0 0 aa (aa.length : Int) 0)) else (some (0, false)))
theorem zT.calls (k : Nat) (a0 : Int) (r1 : Int) (r2 : Bool) (w : World) (h : zT.f k a0 = some (r1, r2)) :
  Calls Tryz.prog 11 #[.int .i64 a0] w fun e w' => e = .returned (.tuple #[.int .i64 r1, .bool r2]) ∧ Below w.heap.size w w' := by
 have HB := qa.mk (Below.refl w.heap.size w);have H := h;unfold zT.f at H;clear h;replace H := bd_ H;obtain ⟨av, A2, H⟩ := H;replace H := yL H;rcases H with ⟨rfl, H⟩ | ⟨rfl, H⟩
 ·replace H := bd_ H;obtain ⟨ab, A4, H⟩ := H;have H' := qa.mk H;clear H;go_enter Tryz.func11, Tryz.ntmps11;go_wp2_with (first | ((with_reducible refine gt_ 44 ?_); refine gc_ 44 8 (zR.calls a0 true _ A2.out) ?_; rintro _ w' ⟨rfl, nd, rfl⟩; refine ⟨_, rfl, ?_⟩) | ((with_reducible refine gt_ 47 ?_); refine gc_ 47 11 (xJ.calls a0 ab _ A4.out) ?_; rintro _ w5 ⟨aw, rfl, ho0, hb⟩; refine ⟨_, rfl, ?_⟩; have an := qa.mk (Kd.kN ho0 zw); replace HB := bs_ hb; obtain ⟨Ao6, co6, eo6⟩ := Kd.wN an.out; subst eo6));go_loopg [4, 13] k (fun kq v4 v13 w' => ∃ (aj : Int) (aa : Int), v4 = .int .i64 aj ∧ v13 = .int .i64 aa ∧ qa (zT.l0 kq a0 aj ab (ab.length : Int) aa = some (r1, r2)) ∧ kq ≤ k ∧ qa (Kd.S (Kd.slice 62 k62) 32 w' w.heap.size (fun _ => True) (.slice Ao6 ab.length co6) ab) ∧ qa (Below w.heap.size w w'));(case atStart => exact ⟨(0), (0), qY, qY, H', Nat.le_refl _, ⟨sa_ an.out⟩, ⟨qX⟩⟩);case round =>
   clear H';obtain ⟨aj, aa, rfl, rfl, HA, HK1, HO_11, HB⟩ := hrel;obtain ⟨k1, rfl, H⟩ := sx_ (zT.l0 · _ _ _ _ _) gk HA;clear HA;simp only [zT.l0] at H;replace H := id_ H;rcases H with ⟨ap, H⟩ | ⟨ap, H⟩
   ·replace H := it_ H;obtain ⟨ax, H⟩ := H;replace H := it_ H;obtain ⟨ay, H⟩ := H;replace H := bd_ H;obtain ⟨ak, A10, H⟩ := H;replace H := bd_ H;obtain ⟨az, A11, H⟩ := H;replace H := yL H;rcases H with ⟨rfl, H⟩ | ⟨rfl, H⟩
    ·have H' := qa.mk H;clear H;have ae : 0 ≤ (aa : Int) := qI;have af : aa < (ab.length : Int) := qI;obtain ⟨ao, A327_0, c327_0, al, ah, hl327_0, hi327_0⟩ := Zo (Kd.wB HO_11.out).2.2 aa ae af;cases al;obtain ⟨ce327, hce327, hMe327, hcc327⟩ := Kd.S_get HO_11.out [] aa ae (by first | exact af | exact qI | (have e_ := (Kd.wB HO_11.out).1; omega));obtain ⟨ve327_0, rfl, ge327_0⟩ := hMe327;have hv327_0 := hcc327 0 _ rfl;rw [Nat.add_zero, show ((Kd.slice 62 k62)).sz = 1 from rfl, Nat.mul_one] at hv327_0;replace hv327_0 := Option.some.inj (hv327_0.symm.trans ah);rw [hv327_0] at ge327_0;have HL327_0 := qa.mk (show Kd.R k62 62 _ _ _ _ (yA ab aa) from ge327_0);clear hv327_0 ge327_0;clear hcc327 hce327;have ac := qa.mk hi327_0;have ai := qa.mk hl327_0;clear hi327_0 hl327_0;replace ae := eq_true ae;replace af := eq_true af;go_wp2_with (first | ((with_reducible refine gt_ 49 ?_); refine gc_ 49 19 (qQ.calls k1 a0 (fun k_ => some k_ = (.slice A327_0 (yA ab aa).length c327_0 : Value).ownBlock) _ _ (yA ab aa) ak _ (Kd.R_V (Kd.xZ rfl (HL327_0.out))) A10.out) ?_; rintro _ w13 ⟨aq, rfl, ho0, hb⟩; refine ⟨_, rfl, ?_⟩; have ag := qa.mk (Kd.qy (Kd.uO (Kd.qj (ok' := fun k_ => True) ho0 (fun _ hk_ => trivial)) (Kd.xQ (ra_ HL327_0.out))) zw); replace HO_11 := qa.mk (Kd.Z9 (sa_ HO_11.out) (Kd.uV ho0) hb); replace HL327_0 := re_ HL327_0 ho0 hb; replace ac := cb_ ac hb; replace HB := bs_ hb; obtain ⟨a1, a2, ar⟩ := Kd.ql ag.out; subst ar) | ((with_reducible refine gt_ 48 ?_); refine gc_ 48 21 (zk.calls k1 _ _ ak _ _ (yA ab aa) true _ (cd_ (Kd.qc ag.out).2.2) ((Kd.qc ag.out).2.1) (cd_ (cd_ ac.out)) ai.out A11.out) ?_; rintro _ w' ⟨rfl, nd, rfl⟩; refine ⟨_, rfl, ?_⟩));go_roundg k1;(case measure => omega);case rel => exact ⟨(wrap64 (aj + 1)), (wrap64 (aa + 1)), qY, qY, H', by omega, ⟨ss_ (Kd.ku HO_11.out (fun _ hk => trivial))⟩, ⟨qX⟩⟩
    ·have H' := qa.mk H;clear H;have ae : 0 ≤ (aa : Int) := qI;have af : aa < (ab.length : Int) := qI;obtain ⟨ao, A327_0, c327_0, al, ah, hl327_0, hi327_0⟩ := Zo (Kd.wB HO_11.out).2.2 aa ae af;cases al;obtain ⟨ce327, hce327, hMe327, hcc327⟩ := Kd.S_get HO_11.out [] aa ae (by first | exact af | exact qI | (have e_ := (Kd.wB HO_11.out).1; omega));obtain ⟨ve327_0, rfl, ge327_0⟩ := hMe327;have hv327_0 := hcc327 0 _ rfl;rw [Nat.add_zero, show ((Kd.slice 62 k62)).sz = 1 from rfl, Nat.mul_one] at hv327_0;replace hv327_0 := Option.some.inj (hv327_0.symm.trans ah);rw [hv327_0] at ge327_0;have HL327_0 := qa.mk (show Kd.R k62 62 _ _ _ _ (yA ab aa) from ge327_0);clear hv327_0 ge327_0;clear hcc327 hce327;have ac := qa.mk hi327_0;have ai := qa.mk hl327_0;clear hi327_0 hl327_0;replace ae := eq_true ae;replace af := eq_true af;go_wp2_with (first | ((with_reducible refine gt_ 49 ?_); refine gc_ 49 19 (qQ.calls k1 a0 (fun k_ => some k_ = (.slice A327_0 (yA ab aa).length c327_0 : Value).ownBlock) _ _ (yA ab aa) ak _ (Kd.R_V (Kd.xZ rfl (HL327_0.out))) A10.out) ?_; rintro _ w15 ⟨aq, rfl, ho0, hb⟩; refine ⟨_, rfl, ?_⟩; have ag := qa.mk (Kd.qy (Kd.uO (Kd.qj (ok' := fun k_ => True) ho0 (fun _ hk_ => trivial)) (Kd.xQ (ra_ HL327_0.out))) zw); replace HO_11 := qa.mk (Kd.Z9 (sa_ HO_11.out) (Kd.uV ho0) hb); replace HL327_0 := re_ HL327_0 ho0 hb; replace ac := cb_ ac hb; replace HB := bs_ hb; obtain ⟨a3, a4, au⟩ := Kd.ql ag.out; subst au) | ((with_reducible refine gt_ 48 ?_); refine gc_ 48 21 (zk.calls k1 _ _ ak _ _ (yA ab aa) false _ (cd_ (Kd.qc ag.out).2.2) ((Kd.qc ag.out).2.1) (cd_ (cd_ ac.out)) ai.out A11.out) ?_; rintro _ w' ⟨rfl, nd, rfl⟩; refine ⟨_, rfl, ?_⟩));go_roundg k1;(case measure => omega);case rel => exact ⟨(aj), (wrap64 (aa + 1)), qY, qY, H', by omega, ⟨ss_ (Kd.ku HO_11.out (fun _ hk => trivial))⟩, ⟨qX⟩⟩
   ·simp only [Option.some.injEq, Prod.mk.injEq] at H;obtain ⟨rfl, rfl⟩ := H;go_wp2;go_ret2;exact er_
 ·simp only [Option.some.injEq, Prod.mk.injEq] at H;obtain ⟨rfl, rfl⟩ := H;go_enter Tryz.func11, Tryz.ntmps11;go_wp2_with (first | ((with_reducible refine gt_ 44 ?_); refine gc_ 44 8 (zR.calls a0 false _ A2.out) ?_; rintro _ w' ⟨rfl, nd, rfl⟩; refine ⟨_, rfl, ?_⟩));go_ret2;exact er_

/-! ### qR: function 17 -/
def qR.l0 : Nat → List (S62) → List (S62) → Int → Int → Option (Bool)
 | 0, _, _, _, _ => none
 | k + 1, x0, x1, x12, x13 => if x13 < x12 then (if 0 ≤ x13 then (if x13 < (x0.length : Int) then (if x13 < (x1.length : Int) then (if (!(((qb x0 x13).f0) == ((qb x1 x13).f0)) || (!(((qb x0 x13).f1) == ((qb x1 x13).f1)))) = true then (some false) else (qR.l0 k x0 x1 x12 (wrap64 (x13 + 1)))) else (none)) else (none)) else (none)) else (some true)
def qR.f (k : Nat) (l0 : List (S62)) (l1 : List (S62)) : Option (Bool) := if (l0.length : Int) = (l1.length : Int) then (qR.l0 k l0 l1 (l0.length : Int) 0) else (some false)
theorem qR.calls (k : Nat) (A0 : Option Addr) (c0 : Nat) (l0 : List (S62)) (A1 : Option Addr) (c1 : Nat) (l1 : List (S62)) (r : Bool) (w : World) (HR0 : Kd.C k62 w A0 l0.length l0) (HC0 : l0.length ≤ c0) (HR1 : Kd.C k62 w A1 l1.length l1) (HC1 : l1.length ≤ c1) (h : qR.f k l0 l1 = some r) :
  Calls Tryz.prog 17 #[.slice A0 l0.length c0, .slice A1 l1.length c1] w fun e w' => e = .returned (.bool r) ∧ zh w w' := by
 replace HR0 := qa.mk HR0;replace HC0 := qa.mk HC0;replace HR1 := qa.mk HR1;replace HC1 := qa.mk HC1;have hu62 := Tryz.underlying62;have H := h;unfold qR.f at H;clear h;replace H := ic_ H;rcases H with ⟨c3, H⟩ | ⟨c3, H⟩
 ·have ai : ((l0.length : Int) == (l1.length : Int)) = true := beq_iff_eq.mpr c3;have aj : ((l0.length : Int) != (l1.length : Int)) = false := bne_eq_false_iff_eq.mpr c3;have ak : (l0.length == l1.length) = true := (by first | simpa using c3 | (simp at c3 ⊢; omega));clear c3;have H' := qa.mk H;clear H;go_enter Tryz.func17, Tryz.ntmps17;go_wp2;(repeat (go_quiet (fail); try go_wp2));go_loopg [13] k (fun kq v13 w' => ∃ (aa : Int), v13 = .int .i64 aa ∧ qa (qR.l0 kq l0 l1 (l0.length : Int) aa = some r) ∧ kq ≤ k ∧ zh w w');(case atStart => exact ⟨(0), qY, H', Nat.le_refl _, d0_⟩);case round =>
   clear H';clear ai aj ak;obtain ⟨aa, rfl, HA, HK1, ⟨m1, rfl⟩⟩ := hrel;obtain ⟨k1, rfl, H⟩ := sx_ (qR.l0 · _ _ _ _) gk HA;clear HA;simp only [qR.l0] at H;replace H := id_ H;rcases H with ⟨ao, H⟩ | ⟨ao, H⟩
   ·replace H := it_ H;obtain ⟨aw, H⟩ := H;replace H := it_ H;obtain ⟨ax, H⟩ := H;replace H := it_ H;obtain ⟨ay, H⟩ := H;replace H := ic_ H;rcases H with ⟨c8, H⟩ | ⟨c8, H⟩
    ·have ap : (!(((qb l0 aa).f0) == ((qb l1 aa).f0)) || (!(((qb l0 aa).f1) == ((qb l1 aa).f1)))) = true := c8;clear c8;obtain rfl := Option.some.inj H;obtain ⟨aq, ar, al, ab, ae, af⟩ := vW HR0.out aa;cases ab;obtain ⟨au, av, an, ac, ag, ah⟩ := vW HR1.out aa;cases ac;go_wp2;(repeat (go_quiet (fail); try go_wp2));go_ret;exact dr_
    ·have ap : (!(((qb l0 aa).f0) == ((qb l1 aa).f0)) || (!(((qb l0 aa).f1) == ((qb l1 aa).f1)))) = false := (by simpa using c8);clear c8;have H' := qa.mk H;clear H;obtain ⟨aq, ar, al, ab, ae, af⟩ := vW HR0.out aa;cases ab;obtain ⟨au, av, an, ac, ag, ah⟩ := vW HR1.out aa;cases ac;go_wp2;(repeat (go_quiet (fail); try go_wp2));go_roundg k1;(case measure => omega);case rel => exact ⟨(wrap64 (aa + 1)), qY, H', by omega, d0_⟩
   ·obtain rfl := Option.some.inj H;go_wp2;(repeat (go_quiet (fail); try go_wp2));go_ret;exact dr_
 ·have ai : ((l0.length : Int) == (l1.length : Int)) = false := beq_eq_false_iff_ne.mpr c3;have aj : ((l0.length : Int) != (l1.length : Int)) = true := bne_iff_ne.mpr c3;have ak : (l0.length == l1.length) = false := (by first | simpa using c3 | (simp at c3 ⊢; omega));obtain rfl := Option.some.inj H;go_enter Tryz.func17, Tryz.ntmps17;go_wp2;(repeat (go_quiet (fail); try go_wp2));go_ret;exact dr_

/-! ### vG: function 12 -/
def vG.l0 : Nat → List (List (S62)) → List (List (S62)) → Int → Int → Option (Bool)
 | 0, _, _, _, _ => none
 | k + 1, x0, x1, x12, x13 => if x13 < x12 then (if 0 ≤ x13 then (if x13 < (x0.length : Int) then (if x13 < (x1.length : Int) then ((qR.f k (yA x0 x13) (yA x1 x13)).bind fun aa => (if aa = true then (vG.l0 k x0 x1 x12 (wrap64 (x13 + 1))) else (some false))) else (none)) else (none)) else (none)) else (some true)
def vG.f (k : Nat) (l0 : List (List (S62))) (l1 : List (List (S62))) : Option (Bool) := if (l0.length : Int) = (l1.length : Int) then (vG.l0 k l0 l1 (l0.length : Int) 0) else (some false)
theorem vG.calls (k : Nat) (A0 : Option Addr) (c0 : Nat) (l0 : List (List (S62))) (A1 : Option Addr) (c1 : Nat) (l1 : List (List (S62))) (r : Bool) (w : World) (HR0 : Kd.C (Kd.slice 62 k62) w A0 l0.length l0) (HC0 : l0.length ≤ c0) (HR1 : Kd.C (Kd.slice 62 k62) w A1 l1.length l1) (HC1 : l1.length ≤ c1) (h : vG.f k l0 l1 = some r) :
  Calls Tryz.prog 12 #[.slice A0 l0.length c0, .slice A1 l1.length c1] w fun e w' => e = .returned (.bool r) ∧ zh w w' := by
 replace HR0 := qa.mk HR0;replace HC0 := qa.mk HC0;replace HR1 := qa.mk HR1;replace HC1 := qa.mk HC1;have H := h;unfold vG.f at H;clear h;replace H := ic_ H;rcases H with ⟨c3, H⟩ | ⟨c3, H⟩
 ·have ap : ((l0.length : Int) == (l1.length : Int)) = true := beq_iff_eq.mpr c3;have aq : ((l0.length : Int) != (l1.length : Int)) = false := bne_eq_false_iff_eq.mpr c3;have ar : (l0.length == l1.length) = true := (by first | simpa using c3 | (simp at c3 ⊢; omega));clear c3;have H' := qa.mk H;clear H;go_enter Tryz.func12, Tryz.ntmps12;go_wp2;(repeat (go_quiet (fail); try go_wp2));go_loopg [13] k (fun kq v13 w' => ∃ (aa : Int), v13 = .int .i64 aa ∧ qa (vG.l0 kq l0 l1 (l0.length : Int) aa = some r) ∧ kq ≤ k ∧ zh w w');(case atStart => exact ⟨(0), qY, H', Nat.le_refl _, d0_⟩);case round =>
   clear H';clear ap aq ar;obtain ⟨aa, rfl, HA, HK1, ⟨m1, rfl⟩⟩ := hrel;obtain ⟨k1, rfl, H⟩ := sx_ (vG.l0 · _ _ _ _) gk HA;clear HA;simp only [vG.l0] at H;replace H := id_ H;rcases H with ⟨aw, H⟩ | ⟨aw, H⟩
   ·replace H := it_ H;obtain ⟨ax, H⟩ := H;replace H := it_ H;obtain ⟨ay, H⟩ := H;replace H := it_ H;obtain ⟨az, H⟩ := H;replace H := bd_ H;obtain ⟨a1, A8, H⟩ := H;replace H := yL H;rcases H with ⟨rfl, H⟩ | ⟨rfl, H⟩
    ·have H' := qa.mk H;clear H;have ag : 0 ≤ (aa : Int) := qI;have ah : aa < (l0.length : Int) := qI;obtain ⟨au, A334_0, c334_0, ak, an, hl334_0, hi334_0⟩ := Zo HR0.out aa ag ah;cases ak;have ab := qa.mk hi334_0;have ac := qa.mk hl334_0;clear hi334_0 hl334_0;replace ag := eq_true ag;replace ah := eq_true ah;have ai : 0 ≤ (aa : Int) := qI;have aj : aa < (l1.length : Int) := qI;obtain ⟨av, A335_0, c335_0, al, ao, hl335_0, hi335_0⟩ := Zo HR1.out aa ai aj;cases al;have ae := qa.mk hi335_0;have af := qa.mk hl335_0;clear hi335_0 hl335_0;replace ai := eq_true ai;replace aj := eq_true aj;go_wp2_with (first | (go_at_call 17; (with_reducible refine (qR.calls k1 _ _ (yA l0 aa) _ _ (yA l1 aa) true _ ?side1 ?side2 ?side3 ?side4 A8.out).mono ?_); (case side1 => exact cd_ ab.out); (case side2 => exact ac.out); (case side3 => exact cd_ ae.out); (case side4 => exact af.out); rintro e w' ⟨rfl, ⟨nd, rfl⟩⟩; (try first | exact ⟨rfl, _, World.drewN_drewN _ _ _⟩ | exact ⟨rfl, _, Eq.trans (World.drewN_drewN _ _ _) (congrArg (World.drewN _) (Nat.add_assoc _ _ _))⟩)));(repeat (go_quiet (first | (go_at_call 17; (with_reducible refine (qR.calls k1 _ _ (yA l0 aa) _ _ (yA l1 aa) true _ ?side1 ?side2 ?side3 ?side4 A8.out).mono ?_); (case side1 => exact cd_ ab.out); (case side2 => exact ac.out); (case side3 => exact cd_ ae.out); (case side4 => exact af.out); rintro e w' ⟨rfl, ⟨nd, rfl⟩⟩; (try first | exact ⟨rfl, _, World.drewN_drewN _ _ _⟩ | exact ⟨rfl, _, Eq.trans (World.drewN_drewN _ _ _) (congrArg (World.drewN _) (Nat.add_assoc _ _ _))⟩))); try go_wp2_with (first | (go_at_call 17; (with_reducible refine (qR.calls k1 _ _ (yA l0 aa) _ _ (yA l1 aa) true _ ?side1 ?side2 ?side3 ?side4 A8.out).mono ?_); (case side1 => exact cd_ ab.out); (case side2 => exact ac.out); (case side3 => exact cd_ ae.out); (case side4 => exact af.out); rintro e w' ⟨rfl, ⟨nd, rfl⟩⟩; (try first | exact ⟨rfl, _, World.drewN_drewN _ _ _⟩ | exact ⟨rfl, _, Eq.trans (World.drewN_drewN _ _ _) (congrArg (World.drewN _) (Nat.add_assoc _ _ _))⟩)))));go_roundg k1;(case measure => omega);case rel => exact ⟨(wrap64 (aa + 1)), qY, H', by omega, d0_⟩
    ·obtain rfl := Option.some.inj H;have ag : 0 ≤ (aa : Int) := qI;have ah : aa < (l0.length : Int) := qI;obtain ⟨au, A334_0, c334_0, ak, an, hl334_0, hi334_0⟩ := Zo HR0.out aa ag ah;cases ak;have ab := qa.mk hi334_0;have ac := qa.mk hl334_0;clear hi334_0 hl334_0;replace ag := eq_true ag;replace ah := eq_true ah;have ai : 0 ≤ (aa : Int) := qI;have aj : aa < (l1.length : Int) := qI;obtain ⟨av, A335_0, c335_0, al, ao, hl335_0, hi335_0⟩ := Zo HR1.out aa ai aj;cases al;have ae := qa.mk hi335_0;have af := qa.mk hl335_0;clear hi335_0 hl335_0;replace ai := eq_true ai;replace aj := eq_true aj;go_wp2_with (first | (go_at_call 17; (with_reducible refine (qR.calls k1 _ _ (yA l0 aa) _ _ (yA l1 aa) false _ ?side1 ?side2 ?side3 ?side4 A8.out).mono ?_); (case side1 => exact cd_ ab.out); (case side2 => exact ac.out); (case side3 => exact cd_ ae.out); (case side4 => exact af.out); rintro e w' ⟨rfl, ⟨nd, rfl⟩⟩; (try first | exact ⟨rfl, _, World.drewN_drewN _ _ _⟩ | exact ⟨rfl, _, Eq.trans (World.drewN_drewN _ _ _) (congrArg (World.drewN _) (Nat.add_assoc _ _ _))⟩)));(repeat (go_quiet (first | (go_at_call 17; (with_reducible refine (qR.calls k1 _ _ (yA l0 aa) _ _ (yA l1 aa) false _ ?side1 ?side2 ?side3 ?side4 A8.out).mono ?_); (case side1 => exact cd_ ab.out); (case side2 => exact ac.out); (case side3 => exact cd_ ae.out); (case side4 => exact af.out); rintro e w' ⟨rfl, ⟨nd, rfl⟩⟩; (try first | exact ⟨rfl, _, World.drewN_drewN _ _ _⟩ | exact ⟨rfl, _, Eq.trans (World.drewN_drewN _ _ _) (congrArg (World.drewN _) (Nat.add_assoc _ _ _))⟩))); try go_wp2_with (first | (go_at_call 17; (with_reducible refine (qR.calls k1 _ _ (yA l0 aa) _ _ (yA l1 aa) false _ ?side1 ?side2 ?side3 ?side4 A8.out).mono ?_); (case side1 => exact cd_ ab.out); (case side2 => exact ac.out); (case side3 => exact cd_ ae.out); (case side4 => exact af.out); rintro e w' ⟨rfl, ⟨nd, rfl⟩⟩; (try first | exact ⟨rfl, _, World.drewN_drewN _ _ _⟩ | exact ⟨rfl, _, Eq.trans (World.drewN_drewN _ _ _) (congrArg (World.drewN _) (Nat.add_assoc _ _ _))⟩)))));go_ret;exact dr_
   ·obtain rfl := Option.some.inj H;go_wp2;(repeat (go_quiet (fail); try go_wp2));go_ret;exact dr_
 ·have ap : ((l0.length : Int) == (l1.length : Int)) = false := beq_eq_false_iff_ne.mpr c3;have aq : ((l0.length : Int) != (l1.length : Int)) = true := bne_iff_ne.mpr c3;have ar : (l0.length == l1.length) = false := (by first | simpa using c3 | (simp at c3 ⊢; omega));obtain rfl := Option.some.inj H;go_enter Tryz.func12, Tryz.ntmps12;go_wp2;(repeat (go_quiet (fail); try go_wp2));go_ret;exact dr_

/-! ### yB: function 50 -/
def yB.f (a0 : Int) : Option (Bool) := (zX.f a0 3 12).bind fun aa => (some aa)
theorem yB.calls (a0 : Int) (r : Bool) (w : World) (h : yB.f a0 = some r) :
  Calls Tryz.prog 50 #[.int .i64 a0] w fun e w' => e = .returned (.bool r) ∧ zh w w' := by
 have H := h;unfold yB.f at H;clear h;replace H := bd_ H;obtain ⟨aa, A2, H⟩ := H;obtain rfl := Option.some.inj H;go_enter Tryz.func50, Tryz.ntmps50;go_wp2_with (first | ((with_reducible refine gt_ 52 ?_); refine gc_ 52 4 (zX.calls a0 3 12 aa _ A2.out) ?_; rintro _ w' ⟨rfl, nd, rfl⟩; refine ⟨_, rfl, ?_⟩));go_ret;exact dr_

/-! ### jQ: function 86 -/
def jQ.l0 : Nat → Int → Int → Int → Int → Option (Int)
 | 0, _, _, _, _ => none
 | k + 1, x0, x5, x11, x12 => if x12 < x11 then (if (wrap64 (x12 + 1)) = 0 then (none) else (jQ.l0 k x0 (wrap64 (Int.tdiv (wrap64 (x5 * (wrap64 (x0 - x12)))) (wrap64 (x12 + 1)))) x11 (wrap64 (x12 + 1)))) else (some x5)
def jQ.f (k : Nat) (a0 : Int) (a1 : Int) : Option (Int) := (zX.f a1 0 a0).bind fun aa => (if aa = true then (jQ.l0 k a0 1 a1 0) else (some 0))
theorem jQ.mono_l : ∀ k, (∀ y0 y1 y2 y3, LeO (jQ.l0 k y0 y1 y2 y3) (jQ.l0 (k + 1) y0 y1 y2 y3))
 | 0 => by intros;exact LeO.none _
 | k + 1 => by
  have ih0 := jQ.mono_l k;intros;unfold jQ.l0;exact mn_
theorem jQ.mono : ∀ a0 a1 k, LeO (jQ.f k a0 a1) (jQ.f (k + 1) a0 a1) := by
 intro a0 a1 k;have ih0 := jQ.mono_l k;unfold jQ.f;exact mn_
theorem jQ.calls (k : Nat) (a0 : Int) (a1 : Int) (r : Int) (w : World) (h : jQ.f k a0 a1 = some r) :
  Calls Tryz.prog 86 #[.int .i64 a0, .int .i64 a1] w fun e w' => e = .returned (.int .i64 r) ∧ zh w w' := by
 have H := h;unfold jQ.f at H;clear h;replace H := bd_ H;obtain ⟨ae, A3, H⟩ := H;replace H := yL H;rcases H with ⟨rfl, H⟩ | ⟨rfl, H⟩
 ·have H' := qa.mk H;clear H;go_enter Tryz.func86, Tryz.ntmps86;go_wp2_with (first | ((with_reducible refine gt_ 52 ?_); refine gc_ 52 9 (zX.calls a1 0 a0 true _ A3.out) ?_; rintro _ w' ⟨rfl, nd, rfl⟩; refine ⟨_, rfl, ?_⟩));go_loopg [5, 12] k (fun kq v5 v12 w' => ∃ (ab : Int) (aa : Int), v5 = .int .i64 ab ∧ v12 = .int .i64 aa ∧ qa (jQ.l0 kq a0 ab a1 aa = some r) ∧ kq ≤ k ∧ zh w w');(case atStart => exact ⟨(1), (0), qY, qY, H', Nat.le_refl _, d0_⟩);case round =>
   clear H';obtain ⟨ab, aa, rfl, rfl, HA, HK1, ⟨m1, rfl⟩⟩ := hrel;obtain ⟨k1, rfl, H⟩ := sx_ (jQ.l0 · _ _ _ _) gk HA;clear HA;simp only [jQ.l0] at H;replace H := id_ H;rcases H with ⟨ac, H⟩ | ⟨ac, H⟩
   ·replace H := ic_ H;rcases H with ⟨c6, H⟩ | ⟨c6, H⟩
    ·exact absurd H (by simp)
    ·have af : ((wrap64 (aa + 1)) == 0) = false := beq_eq_false_iff_ne.mpr c6;have ag : ((wrap64 (aa + 1)) != 0) = true := bne_iff_ne.mpr c6;have H' := qa.mk H;clear H;go_wp2;go_roundg k1;(case measure => omega);case rel => exact ⟨(wrap64 (Int.tdiv (wrap64 (ab * (wrap64 (a0 - aa)))) (wrap64 (aa + 1)))), (wrap64 (aa + 1)), qY, qY, H', by omega, d0_⟩
   ·obtain rfl := Option.some.inj H;go_wp2;go_ret;exact dr_
 ·obtain rfl := Option.some.inj H;go_enter Tryz.func86, Tryz.ntmps86;go_wp2_with (first | ((with_reducible refine gt_ 52 ?_); refine gc_ 52 9 (zX.calls a1 0 a0 false _ A3.out) ?_; rintro _ w' ⟨rfl, nd, rfl⟩; refine ⟨_, rfl, ?_⟩));go_ret;exact dr_

end Go.Proofs.YtgblginphicacaaGreat.PFnClassesTold
