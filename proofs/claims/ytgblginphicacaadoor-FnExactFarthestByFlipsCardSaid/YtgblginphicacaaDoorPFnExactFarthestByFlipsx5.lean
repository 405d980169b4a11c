-- WRITTEN BY A PROGRAM OF THIS WORK (wip/tools/ppatch.py) for this claim.
import Derived.Test.YtgblginphicacaaDoorPFnExactFarthestByFlipsx0
namespace Go.Proofs.YtgblginphicacaaDoor.PFnExactFarthestByFlips
open Go.RowKit Go.Proofs.YtgblginphicacaaDoorW.PrintWords Go.Proofs.YtgblginphicacaaDoorW.PrintLast Go.Proofs.YtgblginphicacaaDoorW.PrintMore
attribute [local go_sem] max2_int min2_int max_two min_two max_three min_three max_four min_four   -- for this text's walks alone
set_option linter.unusedVariables false
set_option linter.unusedSimpArgs false

/-! ### spec_poLess: function 62 -/
def spec_poLess.f (a0_0 : Int) (a0_1 : Int) (a1_0 : Int) (a1_1 : Int) : Option (Bool) := if a0_0 < a1_0 then (some true) else (if a0_0 = a1_0 then (some (decide (a0_1 < a1_1))) else (some false))
set_option maxHeartbeats 8000000 in
set_option maxRecDepth 100000 in
theorem spec_poLess.calls (a0_0 : Int) (a0_1 : Int) (a1_0 : Int) (a1_1 : Int) (r : Bool) (w : World) (h : spec_poLess.f a0_0 a0_1 a1_0 a1_1 = some r) :
  Calls Tryd.prog 62 #[.agg #[.int .i64 a0_0, .int .i64 a0_1], .agg #[.int .i64 a1_0, .int .i64 a1_1]] w fun e w' => e = .returned (.bool r) ∧ Below w.heap.size w w' := by
 have hu49 := Tryd.underlying49
 have HB := Aside0.mk (Below.refl w.heap.size w)
 have H : (if a0_0 < a1_0 then (some true) else (if a0_0 = a1_0 then (some (decide (a0_1 < a1_1))) else (some false))) = some r := h
 clear h
 by_cases c3 : a0_0 < a1_0
 ·rw [if_pos c3] at H
  have c3b0 : decide (a0_0 < a1_0) = true := decide_eq_true c3
  clear c3
  obtain rfl := Option.some.inj H
  go_enter Tryd.func62, Tryd.ntmps62
  go_wp2_with (first | ((with_reducible refine gate_dst (N := 2) rfl ?_); refine bxe_ 2 #[.int .i64 a0_0, .int .i64 a0_1] 49 ?_; intro gb127 hg w4 hbox hb; have BK127 := Aside0.mk (hbox); have GW127 := gz_ w hg; have GE127 := gz_ w hg; replace HB := Aside0.mk (below_step blw_ hb); clear hb hbox hg) | ((with_reducible refine gate_dst (N := 3) rfl ?_); refine bxe_ 3 #[.int .i64 a1_0, .int .i64 a1_1] 49 ?_; intro gb128 hg w5 hbox hb; have BK128 := Aside0.mk (hbox); have GW128 := gz_ w hg; have GE128 := gz_ w hg; have NB127_128 := nb_ BK127 hg; have NB128_127 := nbr_ BK127 hg; replace BK127 := bb_ BK127 hb; replace HB := Aside0.mk (below_step bls_ hb); clear hb hbox hg; have hnb6 := NB127_128.out; have hnc6 := NB128_127.out; have hcz7_0 := blc_ (.int .i64 a0_0) BK127 0; have hcz7_1 := blc_ (.int .i64 a0_1) BK127 1; have hfz7_0 := blk_frozen BK127.out 0; have hfz7_1 := blk_frozen BK127.out 1; have hcz8_0 := blc_ (.int .i64 a1_0) BK128 0; have hcz8_1 := blc_ (.int .i64 a1_1) BK128 1; have hfz8_0 := blk_frozen BK128.out 0; have hfz8_1 := blk_frozen BK128.out 1))
  go_ret
  exact er_
 ·rw [if_neg c3] at H
  have c3b0 : decide (a0_0 < a1_0) = false := decide_eq_false c3
  clear c3
  by_cases c9 : a0_0 = a1_0
  ·rw [if_pos c9] at H
   have c9b0 : (a0_0 == a1_0) = true := beq_iff_eq.mpr c9
   have c9b1 : (a0_0 != a1_0) = false := bne_eq_false_iff_eq.mpr c9
   clear c9
   obtain rfl := Option.some.inj H
   go_enter Tryd.func62, Tryd.ntmps62
   go_wp2_with (first | ((with_reducible refine gate_dst (N := 2) rfl ?_); refine bxe_ 2 #[.int .i64 a0_0, .int .i64 a0_1] 49 ?_; intro gb127 hg w10 hbox hb; have BK127 := Aside0.mk (hbox); have GW127 := gz_ w hg; have GE127 := gz_ w hg; replace HB := Aside0.mk (below_step blw_ hb); clear hb hbox hg) | ((with_reducible refine gate_dst (N := 3) rfl ?_); refine bxe_ 3 #[.int .i64 a1_0, .int .i64 a1_1] 49 ?_; intro gb128 hg w11 hbox hb; have BK128 := Aside0.mk (hbox); have GW128 := gz_ w hg; have GE128 := gz_ w hg; have NB127_128 := nb_ BK127 hg; have NB128_127 := nbr_ BK127 hg; replace BK127 := bb_ BK127 hb; replace HB := Aside0.mk (below_step bls_ hb); clear hb hbox hg; have hnb12 := NB127_128.out; have hnc12 := NB128_127.out; have hcz13_0 := blc_ (.int .i64 a0_0) BK127 0; have hcz13_1 := blc_ (.int .i64 a0_1) BK127 1; have hfz13_0 := blk_frozen BK127.out 0; have hfz13_1 := blk_frozen BK127.out 1; have hcz14_0 := blc_ (.int .i64 a1_0) BK128 0; have hcz14_1 := blc_ (.int .i64 a1_1) BK128 1; have hfz14_0 := blk_frozen BK128.out 0; have hfz14_1 := blk_frozen BK128.out 1))
   go_ret
   exact er_
  ·rw [if_neg c9] at H
   have c9b0 : (a0_0 == a1_0) = false := beq_eq_false_iff_ne.mpr c9
   have c9b1 : (a0_0 != a1_0) = true := bne_iff_ne.mpr c9
   obtain rfl := Option.some.inj H
   go_enter Tryd.func62, Tryd.ntmps62
   go_wp2_with (first | ((with_reducible refine gate_dst (N := 2) rfl ?_); refine bxe_ 2 #[.int .i64 a0_0, .int .i64 a0_1] 49 ?_; intro gb127 hg w15 hbox hb; have BK127 := Aside0.mk (hbox); have GW127 := gz_ w hg; have GE127 := gz_ w hg; replace HB := Aside0.mk (below_step blw_ hb); clear hb hbox hg) | ((with_reducible refine gate_dst (N := 3) rfl ?_); refine bxe_ 3 #[.int .i64 a1_0, .int .i64 a1_1] 49 ?_; intro gb128 hg w16 hbox hb; have BK128 := Aside0.mk (hbox); have GW128 := gz_ w hg; have GE128 := gz_ w hg; have NB127_128 := nb_ BK127 hg; have NB128_127 := nbr_ BK127 hg; replace BK127 := bb_ BK127 hb; replace HB := Aside0.mk (below_step bls_ hb); clear hb hbox hg; have hnb17 := NB127_128.out; have hnc17 := NB128_127.out; have hcz18_0 := blc_ (.int .i64 a0_0) BK127 0; have hcz18_1 := blc_ (.int .i64 a0_1) BK127 1; have hfz18_0 := blk_frozen BK127.out 0; have hfz18_1 := blk_frozen BK127.out 1; have hcz19_0 := blc_ (.int .i64 a1_0) BK128 0; have hcz19_1 := blc_ (.int .i64 a1_1) BK128 1; have hfz19_0 := blk_frozen BK128.out 0; have hfz19_1 := blk_frozen BK128.out 1))
   go_ret
   exact er_

end Go.Proofs.YtgblginphicacaaDoor.PFnExactFarthestByFlips
