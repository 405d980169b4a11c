-- Short words for what the printed parts say often (slim.py)
import Derived.Test.YtnjejmfnacpdoaaVFnExactFractionsOfWords
import Derived.Test.YtnjejmfnacpdoaaVFnExactFractionsOfLast
open Go.RowKit
namespace Go.Proofs.YtnjejmfnacpdoaaW.PrintWords
theorem blw_ {p : Prop} (h : p := by repeat (first | (with_reducible first | exact HB.out | apply below_alloc | apply pw_below_drewN | apply below_drew1) | exact HB.out)) : p := h
theorem amp_ {p : Prop} (h : p := by (try simp only [List.map_toArray, List.map_cons, List.map_nil]); first | done | rfl | (simp only [List.length_drop, List.length_take]; rfl)) : p := h
theorem odt_ {p : Prop} [Decidable p] (h : decide p = true := by first | (with_reducible assumption) | assumption) : p := of_decide_eq_true h
theorem bk_ {p q : Prop} (h : q) (f : q → p := by intro h_; (with_reducible repeat (first | refine blk_drewN ?_ _ | refine blk_drew ?_ | refine blk_alloc ?_ _)); exact h_) : p := f h
theorem ra_ {p q : Prop} (h : q) (f : q → p := by intro h_; (with_reducible repeat (first | apply Kd.R_alloc | apply Kd.R_drewN | apply Kd.R_drew)); exact h_) : p := f h
theorem ap_ {p : Prop} (h : p := by simp only [Act.put, List.setIfInBounds_toArray, List.set_cons_zero, List.set_cons_succ, i64_w, i32_w]; rfl) : p := h
theorem gw_ {p : Prop} (h : p := by intro w'; go_simp; with_reducible rfl) : p := h
end Go.Proofs.YtnjejmfnacpdoaaW.PrintWords
