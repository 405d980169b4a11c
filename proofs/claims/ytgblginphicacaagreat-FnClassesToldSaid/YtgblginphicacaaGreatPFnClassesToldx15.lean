-- WRITTEN BY A PROGRAM OF THIS WORK (wip/tools/ppatch.py) for this claim.
import Derived.Test.YtgblginphicacaaGreatPFnClassesToldx0
import Derived.Test.YtgblginphicacaaGreatPFnClassesToldx5
import Derived.Test.YtgblginphicacaaGreatPFnClassesToldx6
import Derived.Test.YtgblginphicacaaGreatPFnClassesToldx7
import Derived.Test.YtgblginphicacaaGreatPFnClassesToldx8
import Derived.Test.YtgblginphicacaaGreatPFnClassesToldx9
import Derived.Test.YtgblginphicacaaGreatPFnClassesToldx14
namespace Go.Proofs.YtgblginphicacaaGreat.PFnClassesTold
open Go.RowKit Go.Proofs.YtgblginphicacaaGreatW.PrintWords Go.Proofs.YtgblginphicacaaGreatW.PrintLast Go.Proofs.YtgblginphicacaaGreatW.PrintMore
set_option maxHeartbeats 8000000
set_option maxRecDepth 100000
attribute [local go_sem] yT yV vX vY jX jY yU yX   -- for this text's walks alone
set_option linter.unusedVariables false
set_option linter.unusedSimpArgs false

/-! ### xM: function 51 -/
def xM.f (k : Nat) (a0 : Int) : Option (Int) := (jQ.f k (wrap64 ((wrap64 (2 * a0)) - 4)) (wrap64 (a0 - 2))).bind fun aa => (if (wrap64 (a0 - 1)) = 0 then (none) else (some (wrap64 (Int.tdiv aa (wrap64 (a0 - 1))))))
theorem xM.mono : ∀ a0 k, LeO (xM.f k a0) (xM.f (k + 1) a0) := by
 intro a0 k;have m0 := jQ.mono;unfold xM.f;exact mn_
theorem xM.calls (k : Nat) (a0 : Int) (r : Int) (w : World) (h : xM.f k a0 = some r) :
  Calls Tryz.prog 51 #[.int .i64 a0] w fun e w' => e = .returned (.int .i64 r) ∧ zh w w' := by
 have H := h;unfold xM.f at H;clear h;replace H := bd_ H;obtain ⟨aa, A2, H⟩ := H;replace H := ic_ H;rcases H with ⟨c3, H⟩ | ⟨c3, H⟩
 ·exact absurd H (by simp)
 ·have ab : ((wrap64 (a0 - 1)) == 0) = false := beq_eq_false_iff_ne.mpr c3;have ac : ((wrap64 (a0 - 1)) != 0) = true := bne_iff_ne.mpr c3;obtain rfl := Option.some.inj H;go_enter Tryz.func51, Tryz.ntmps51;go_wp2_with (first | ((with_reducible refine gt_ 86 ?_); refine gc_ 86 8 (jQ.calls k (wrap64 ((wrap64 (2 * a0)) - 4)) (wrap64 (a0 - 2)) aa _ A2.out) ?_; rintro _ w' ⟨rfl, nd, rfl⟩; refine ⟨_, rfl, ?_⟩));go_ret;exact dr_

/-! ### zH: function 13 -/
def zH.f (k : Nat) (a0 : Int) : Option (Int × Bool) := (yB.f a0).bind fun aa => (if aa = true then ((xM.f k a0).bind fun ab => (some (ab, true))) else (some (0, false)))
theorem zH.mono : ∀ a0 k, LeO (zH.f k a0) (zH.f (k + 1) a0) := by
 intro a0 k;have m0 := xM.mono;unfold zH.f;exact mn_
theorem zH.calls (k : Nat) (a0 : Int) (r1 : Int) (r2 : Bool) (w : World) (h : zH.f k a0 = some (r1, r2)) :
  Calls Tryz.prog 13 #[.int .i64 a0] w fun e w' => e = .returned (.tuple #[.int .i64 r1, .bool r2]) ∧ zh w w' := by
 have H := h;unfold zH.f at H;clear h;replace H := bd_ H;obtain ⟨ab, A2, H⟩ := H;replace H := yL H;rcases H with ⟨rfl, H⟩ | ⟨rfl, H⟩
 ·replace H := bd_ H;obtain ⟨aa, A4, H⟩ := H;simp only [Option.some.injEq, Prod.mk.injEq] at H;obtain ⟨rfl, rfl⟩ := H;go_enter Tryz.func13, Tryz.ntmps13;go_wp2_with (first | ((with_reducible refine gt_ 50 ?_); refine gc_ 50 5 (yB.calls a0 true _ A2.out) ?_; rintro _ w' ⟨rfl, nd, rfl⟩; refine ⟨_, rfl, ?_⟩) | ((with_reducible refine gt_ 51 ?_); refine gc_ 51 8 (xM.calls k a0 aa _ A4.out) ?_; rintro _ w' ⟨rfl, nd, rfl⟩; refine ⟨_, rfl, ?_⟩));go_ret2;exact dr_
 ·simp only [Option.some.injEq, Prod.mk.injEq] at H;obtain ⟨rfl, rfl⟩ := H;go_enter Tryz.func13, Tryz.ntmps13;go_wp2_with (first | ((with_reducible refine gt_ 50 ?_); refine gc_ 50 5 (yB.calls a0 false _ A2.out) ?_; rintro _ w' ⟨rfl, nd, rfl⟩; refine ⟨_, rfl, ?_⟩));go_ret2;exact dr_

-- TOLD FOR zG: impl.CountSymmetric$1 | 
/-! ### zG: function 100007 -/
def zG.f (k : Nat) (a0 : Int) (l1 : List (S62)) (a2_0_0 : Int) : Option ((List (S62))) := (jU.f k a0 l1 a2_0_0).bind fun aa => (some aa)
theorem zG.mono : ∀ a0 a1 a2 k, LeO (zG.f k a0 a1 a2) (zG.f (k + 1) a0 a1 a2) := by
 intro a0 a1 a2 k;have m0 := jU.mono;unfold zG.f;exact mn_
theorem zG.calls (k : Nat) (a0 : Int) (A1 : Option Addr) (c1 : Nat) (l1 : List (S62)) (gc2_0 : Nat) (a2_0_0 : Int) (r : List (S62)) (w : World) (HR1 : Kd.C k62 w A1 l1.length l1) (HC1 : l1.length ≤ c1) (aa : w.heap[gc2_0]? = some (.cells #[.int .i64 a2_0_0] 3 (0, 0))) (h : zG.f k a0 l1 a2_0_0 = some r) :
  Calls Tryz.prog 53 #[.int .i64 a0, .slice A1 l1.length c1, .pointer (some ⟨gc2_0, 0, none⟩)] w fun e w' => ∃ v0_ : Value, e = .returned (v0_) ∧ Kd.R k62 62 w' w.heap.size (fun _ => True) v0_ r ∧ Below w.heap.size w w' := by
 replace HR1 := qa.mk HR1;replace HC1 := qa.mk HC1;replace aa := qa.mk aa;have HB := qa.mk (Below.refl w.heap.size w);have H := h;unfold zG.f at H;clear h;replace H := bd_ H;obtain ⟨ac, A4, H⟩ := H;obtain rfl := Option.some.inj H;obtain ⟨ae, af⟩ := bx1_ aa;go_enter Tryz.func53, Tryz.ntmps53;go_wp2_with (first | ((with_reducible refine gt_ 54 ?_); refine gc_ 54 9 (jU.calls k a0 _ _ l1 a2_0_0 ac _ (cd_ HR1.out) HC1.out A4.out) ?_; rintro _ w6 ⟨ag, rfl, ho0, hb⟩; refine ⟨_, rfl, ?_⟩; have ab := qa.mk (Kd.qy ho0 zw); replace aa := bb_ aa hb; replace HB := bs_ hb));go_ret;exact ⟨_, rs_, ra_ ab.out, vI⟩

/-! ### qW: function 14 -/



/-- Does the turn leave it as it is? -/
def qW.keep (k : Nat) (n q : Int) (x : List S62) : Option Bool := (zG.f k n x q).bind fun y => qH.f k y x
theorem qW.ZF (k : Nat) (n q : Int) (x : List S62) : LeO (qW.keep k n q x) (qW.keep (k + 1) n q x) := LeO.bind (zG.mono _ _ _ _) (fun _ => qH.mono _ _ _)
def qW.f (k : Nat) (a0 a1 : Int) : Option (Int × Bool) := (qw.f a0).bind fun b => if b = true then ((zX.f a1 1 (wrap64 (a0 - 1))).bind fun b2 => if b2 = true then ((z8.f k a0).bind fun ts => (kZ (qW.keep k a0 a1) ts).bind fun l => some ((l.length : Int), true)) else some (0, false)) else some (0, false)
set_option maxHeartbeats 4000000 in
set_option maxRecDepth 100000 in
theorem qW.calls (k : Nat) (a0 a1 : Int) (r1 : Int) (r2 : Bool) (w : World) (h : qW.f k a0 a1 = some (r1, r2)) :
  Calls Tryz.prog 14 #[.int .i64 a0, .int .i64 a1] w fun e w' => e = .returned (.tuple #[.int .i64 r1, .bool r2]) ∧ Below w.heap.size w w' := by
 have H := h;unfold qW.f at H;clear h;obtain ⟨b, hb, H⟩ := Option.bind_eq_some_iff.mp H;cases b with
 | false =>
  rw [if_neg (by simp)] at H;injection H with H;injection H with e1 e2;subst e1; subst e2;have HT := qa.mk hb;clear hb;go_enter Tryz.func14, Tryz.ntmps14;go_wp2_with (first
   | ((with_reducible refine gd_ 3 ?_); refine jO 3 #[.int .i64 a1] 3 ?_; intro gq hg w1 hbox hb; have HB1 := qa.mk hb; clear hbox hb hg)
   | (go_at_call 40; refine (qw.calls a0 false _ HT.out).mono ?_; rintro e w5 ⟨rfl, hb⟩; have HB2 := qa.mk (show Below w1.heap.size w1 w5 from by first | exact hb | exact zh.below hb); clear hb))
  go_ret2;exact ⟨rfl, y7 HB1.out (qz HB1.out) HB2.out⟩
 | true =>
  rw [if_pos rfl] at H;obtain ⟨b2, hb2, H⟩ := Option.bind_eq_some_iff.mp H;cases b2 with
  | false =>
   rw [if_neg (by simp)] at H;injection H with H;injection H with e1 e2;subst e1; subst e2;have HT := qa.mk hb;have HT2 := qa.mk hb2;clear hb hb2;go_enter Tryz.func14, Tryz.ntmps14;go_wp2_with (first
    | ((with_reducible refine gd_ 3 ?_); refine jO 3 #[.int .i64 a1] 3 ?_; intro gq hg w1 hbox hb; have HB1 := qa.mk hb; have HQ1 := qa.mk hbox; clear hbox hb hg)
    | (go_at_call 40; refine (qw.calls a0 true _ HT.out).mono ?_; rintro e w5 ⟨rfl, hb⟩; have HB2 := qa.mk (show Below w1.heap.size w1 w5 from by first | exact hb | exact zh.below hb); have hq5 : w5.cell? ⟨gq, 0, none⟩ = some (.int .i64 a1) := (qh ((HB2.out.block _ (jI HQ1.out)).trans HQ1.out) 0).trans rfl; clear hb)
    | (go_at_call 52; refine (zX.calls a1 1 (wrap64 (a0 - 1)) false _ HT2.out).mono ?_; rintro e w6 ⟨rfl, hb⟩; have HB3 := qa.mk (show Below w5.heap.size w5 w6 from by first | exact hb | exact zh.below hb); clear hb))
   go_ret2;exact ⟨rfl, y7 (y7 HB1.out (qz HB1.out) HB2.out) (qz (y7 HB1.out (qz HB1.out) HB2.out)) HB3.out⟩
  | true =>
   rw [if_pos rfl] at H;obtain ⟨ts, ht, H⟩ := Option.bind_eq_some_iff.mp H;obtain ⟨l, hl, H⟩ := Option.bind_eq_some_iff.mp H;injection H with H;injection H with e1 e2;subst e1; subst e2;obtain ⟨hall, rfl⟩ := kP hl
   have hkey : ∀ (W : World) (gq : Nat), W.heap[gq]? = some (.cells #[.int .i64 a1] 3 (0, 0)) → Calls Tryz.prog 42 #[.int .i64 a0, .func (.func 53) #[] #[.pointer (some ⟨gq, 0, none⟩)]] W fun e w' => ∃ v0_ : Value, e = .returned v0_ ∧ Kd.S (Kd.slice 62 k62) 32 w' W.heap.size (fun _ => True) v0_ (ts.filter fun x => (qW.keep k a0 a1 x).getD false) ∧ Below W.heap.size W w' := by
    intro W gq hgq;refine Q3 k a0 ts (qW.keep k a0 a1) 53 #[.pointer (some ⟨gq, 0, none⟩)] W ht hall ?_;intro W2 go gn A c x b _ hk hgo hgn hW hC hc;obtain ⟨y, hy, he⟩ := Option.bind_eq_some_iff.mp hk;exact kg k a0 x y b 53 #[.pointer (some ⟨gq, 0, none⟩)] (enters_of Tryz.func53 (by kernel_rfl) rfl) W2 go gn A c hgo hgn hC hc (zG.calls k a0 A c x gq a1 y W2 hC hc ((hW.block _ (jI hgq)).trans hgq) hy) he
   have HT := qa.mk hb;have HT2 := qa.mk hb2;have HK := qa.mk hkey;clear hb hb2 ht hall hkey hl;go_enter Tryz.func14, Tryz.ntmps14;go_wp2_with (first
    | ((with_reducible refine gd_ 3 ?_); refine jO 3 #[.int .i64 a1] 3 ?_; intro gq hg w1 hbox hb; have HB1 := qa.mk hb; have HQ1 := qa.mk hbox; clear hbox hb hg)
    | (go_at_call 40; refine (qw.calls a0 true _ HT.out).mono ?_; rintro e w5 ⟨rfl, hb⟩; have HB2 := qa.mk (y7 HB1.out (qz HB1.out) (show Below w1.heap.size w1 w5 from by first | exact hb | exact zh.below hb)); have HQ2 := qa.mk (((show Below w1.heap.size w1 w5 from by first | exact hb | exact zh.below hb).block _ (jI HQ1.out)).trans HQ1.out); have hq5 : w5.cell? ⟨gq, 0, none⟩ = some (.int .i64 a1) := (qh HQ2.out 0).trans rfl; clear hb)
    | (go_at_call 52; refine (zX.calls a1 1 (wrap64 (a0 - 1)) true _ HT2.out).mono ?_; rintro e w6 ⟨rfl, hb⟩; have HB3 := qa.mk (y7 HB2.out (qz HB2.out) (show Below w5.heap.size w5 w6 from by first | exact hb | exact zh.below hb)); have HQ3 := qa.mk (((show Below w5.heap.size w5 w6 from by first | exact hb | exact zh.below hb).block _ (jI HQ2.out)).trans HQ2.out); clear hb)
    | (go_at_call 42; refine (HK.out _ gq HQ3.out).mono ?_; rintro e w8 ⟨v8, rfl, ho8, hb8⟩; obtain ⟨A8, c8, rfl⟩ := Kd.wN ho8; have HB8 := qa.mk hb8; clear ho8 hb8))
   go_ret2;exact ⟨rfl, y7 HB3.out (qz HB3.out) HB8.out⟩

-- TOLD FOR jF: impl.IsTriangulation$1 | 
/-! ### jF: function 100010 -/
def jF.f (a0_0 : Int) (a0_1 : Int) (a1_0_0 : Int) (a1_0_1 : Int) : Option (Bool) := (xK.f a1_0_0 a1_0_1 a0_0 a0_1).bind fun aa => (some aa)
theorem jF.calls (a0_0 : Int) (a0_1 : Int) (gc1_0 : Nat) (a1_0_0 : Int) (a1_0_1 : Int) (r : Bool) (w : World) (aa : w.heap[gc1_0]? = some (.cells #[.int .i64 a1_0_0, .int .i64 a1_0_1] 62 (0, 0))) (h : jF.f a0_0 a0_1 a1_0_0 a1_0_1 = some r) :
  Calls Tryz.prog 64 #[.agg #[.int .i64 a0_0, .int .i64 a0_1], .pointer (some ⟨gc1_0, 0, none⟩)] w fun e w' => e = .returned (.bool r) ∧ Below w.heap.size w w' := by
 replace aa := qa.mk aa;have hu62 := Tryz.underlying62;have HB := qa.mk (Below.refl w.heap.size w);have H := h;unfold jF.f at H;clear h;replace H := bd_ H;obtain ⟨af, A3, H⟩ := H;obtain rfl := Option.some.inj H;go_enter Tryz.func64, Tryz.ntmps64;go_wp2_with (first | ((with_reducible refine gd_ 2 ?_); refine jO 2 #[.int .i64 a0_0, .int .i64 a0_1] 62 ?_; intro ap hg w4 hbox hb; have ab := qa.mk hbox; have aq := gz_ w hg; have ac := nb_ aa hg; have ae := wV aa hg; replace aa := bb_ aa hb; replace HB := bs_ hb; clear hb hbox hg; have ar := ac.out; have au := ae.out; obtain ⟨ag, ah, ai, aj⟩ := vB aa; obtain ⟨ak, al, an, ao⟩ := vB ab) | ((with_reducible refine gt_ 65 ?_); refine gc_ 65 6 (xK.calls a1_0_0 a1_0_1 a0_0 a0_1 af _ A3.out) ?_; rintro _ w8 ⟨rfl, hb⟩; refine ⟨_, rfl, ?_⟩; replace aa := bb_ aa hb; replace ab := bb_ ab hb; replace HB := bs_ hb));go_ret;exact er_

-- TOLD FOR zI: slices.IndexFunc[[]impl.Diagonal,impl.Diagonal] | impl.IsTriangulation$1
/-! ### zI: function 100009 -/
def zI.l0 : Nat → List (S62) → Int → Int → Int → Int → Option (Int)
 | 0, _, _, _, _, _ => none
 | k + 1, x0, x7, x8, aa, ab => if x8 < x7 then (if 0 ≤ x8 then (if x8 < (x0.length : Int) then ((jF.f ((qb x0 x8).f0) ((qb x0 x8).f1) aa ab).bind fun ac => (if ac = true then (some x8) else (zI.l0 k x0 x7 (wrap64 (x8 + 1)) aa ab))) else (none)) else (none)) else (some (-1))
def zI.f (k : Nat) (l0 : List (S62)) (a1_0_0 : Int) (a1_0_1 : Int) : Option (Int) := zI.l0 k l0 (l0.length : Int) 0 a1_0_0 a1_0_1
theorem zI.calls (k : Nat) (A0 : Option Addr) (c0 : Nat) (l0 : List (S62)) (gc1_0 : Nat) (a1_0_0 : Int) (a1_0_1 : Int) (r : Int) (w : World) (HR0 : Kd.C k62 w A0 l0.length l0) (HC0 : l0.length ≤ c0) (aa : w.heap[gc1_0]? = some (.cells #[.int .i64 a1_0_0, .int .i64 a1_0_1] 62 (0, 0))) (h : zI.f k l0 a1_0_0 a1_0_1 = some r) :
  Calls Tryz.prog 97 #[.slice A0 l0.length c0, .func (.func 64) #[] #[.pointer (some ⟨gc1_0, 0, none⟩)]] w fun e w' => e = .returned (.int .i64 r) ∧ Below w.heap.size w w' := by
 replace HR0 := qa.mk HR0;replace HC0 := qa.mk HC0;replace aa := qa.mk aa;have hu62 := Tryz.underlying62;have HB := qa.mk (Below.refl w.heap.size w);have H := h;unfold zI.f at H;clear h;have H' := qa.mk H;clear H;go_enter Tryz.func97, Tryz.ntmps97;go_wp2;go_loopg [8] k (fun kq v8 w' => ∃ (ab : Int), v8 = .int .i64 ab ∧ qa (zI.l0 kq l0 (l0.length : Int) ab a1_0_0 a1_0_1 = some r) ∧ kq ≤ k ∧ qa (w'.heap[gc1_0]? = some (.cells #[.int .i64 a1_0_0, .int .i64 a1_0_1] 62 (0, 0))) ∧ qa (Below w.heap.size w w'));(case atStart => exact ⟨(0), qY, H', Nat.le_refl _, ⟨bk_ aa.out⟩, ⟨vI⟩⟩);case round =>
  clear H';obtain ⟨ab, rfl, HA, HK1, aa, HB⟩ := hrel;obtain ⟨k1, rfl, H⟩ := sx_ (zI.l0 · _ _ _ _ _) gk HA;clear HA;simp only [zI.l0] at H;replace H := id_ H;rcases H with ⟨ah, H⟩ | ⟨ah, H⟩
  ·replace H := it_ H;obtain ⟨ak, H⟩ := H;replace H := it_ H;obtain ⟨al, H⟩ := H;replace H := bd_ H;obtain ⟨an, A6, H⟩ := H;replace H := yL H;rcases H with ⟨rfl, H⟩ | ⟨rfl, H⟩
   ·obtain rfl := Option.some.inj H;obtain ⟨ai, aj, ag, af, ac, ae⟩ := vW HR0.out ab;cases af;(try replace ac := hc_ ac);(try replace ae := hc_ ae);go_wp2_with (first | (go_at_call 64; (with_reducible refine (jF.calls ((qb l0 ab).f0) ((qb l0 ab).f1) gc1_0 a1_0_0 a1_0_1 true _ ?side1 A6.out).mono ?_); (case side1 => exact bk_ aa.out); rintro e w8 ⟨rfl, hb⟩; (try replace hb := zh.below hb); replace aa := bb_ aa hb; replace HB := bs_ hb));go_ret;exact er_
   ·have H' := qa.mk H;clear H;obtain ⟨ai, aj, ag, af, ac, ae⟩ := vW HR0.out ab;cases af;(try replace ac := hc_ ac);(try replace ae := hc_ ae);go_wp2_with (first | (go_at_call 64; (with_reducible refine (jF.calls ((qb l0 ab).f0) ((qb l0 ab).f1) gc1_0 a1_0_0 a1_0_1 false _ ?side1 A6.out).mono ?_); (case side1 => exact bk_ aa.out); rintro e w9 ⟨rfl, hb⟩; (try replace hb := zh.below hb); replace aa := bb_ aa hb; replace HB := bs_ hb));go_roundg k1;(case measure => omega);case rel => exact ⟨(wrap64 (ab + 1)), qY, H', by omega, ⟨bk_ aa.out⟩, ⟨vI⟩⟩
  ·obtain rfl := Option.some.inj H;go_wp2;go_ret;exact er_

-- TOLD FOR jB: slices.ContainsFunc[[]impl.Diagonal,impl.Diagonal] | impl.IsTriangulation$1
/-! ### jB: function 100008 -/
def jB.f (k : Nat) (l0 : List (S62)) (a1_0_0 : Int) (a1_0_1 : Int) : Option (Bool) := (zI.f k l0 a1_0_0 a1_0_1).bind fun aa => (some (decide (aa ≥ 0)))
theorem jB.calls (k : Nat) (A0 : Option Addr) (c0 : Nat) (l0 : List (S62)) (gc1_0 : Nat) (a1_0_0 : Int) (a1_0_1 : Int) (r : Bool) (w : World) (HR0 : Kd.C k62 w A0 l0.length l0) (HC0 : l0.length ≤ c0) (aa : w.heap[gc1_0]? = some (.cells #[.int .i64 a1_0_0, .int .i64 a1_0_1] 62 (0, 0))) (h : jB.f k l0 a1_0_0 a1_0_1 = some r) :
  Calls Tryz.prog 63 #[.slice A0 l0.length c0, .func (.func 64) #[] #[.pointer (some ⟨gc1_0, 0, none⟩)]] w fun e w' => e = .returned (.bool r) ∧ Below w.heap.size w w' := by
 replace HR0 := qa.mk HR0;replace HC0 := qa.mk HC0;replace aa := qa.mk aa;have HB := qa.mk (Below.refl w.heap.size w);have H := h;unfold jB.f at H;clear h;replace H := bd_ H;obtain ⟨ab, A3, H⟩ := H;obtain rfl := Option.some.inj H;go_enter Tryz.func63, Tryz.ntmps63;go_wp2_with (first | ((with_reducible refine gt_ 97 ?_); refine gc_ 97 7 (zI.calls k _ _ l0 gc1_0 a1_0_0 a1_0_1 ab _ (cd_ HR0.out) HC0.out (by (with_reducible repeat (first | refine wC ?_ _ | refine y9 ?_ | refine uL ?_ _)); exact aa.out) A3.out) ?_; rintro _ w4 ⟨rfl, hb⟩; refine ⟨_, rfl, ?_⟩; replace aa := bb_ aa hb; replace HB := bs_ hb));go_ret;exact er_

end Go.Proofs.YtgblginphicacaaGreat.PFnClassesTold
