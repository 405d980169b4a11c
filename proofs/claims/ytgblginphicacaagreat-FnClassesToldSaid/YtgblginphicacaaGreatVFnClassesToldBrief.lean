-- Short words (slim5.py)
import Derived.Test.YtgblginphicacaaGreatVFnClassesToldMini
import Derived.Test.YtgblginphicacaaGreatVFnClassesToldMore
import Derived.Test.YtgblginphicacaaGreatVFnClassesToldKept
import Derived.Test.YtgblginphicacaaGreatVFnClassesToldN
import Derived.Test.YtgblginphicacaaGreatVFnClassesToldRepsOne
import Derived.KernelRfl
open Go.RowKit
namespace Go.Proofs.YtgblginphicacaaGreatW.PrintWords
open Go.Proofs.YtgblginphicacaaGreatW.PrintLast Go.Proofs.YtgblginphicacaaGreatW.PrintMore
theorem na_ {p q : Prop} (h : q) (f : q → p := by intro h_; (with_reducible repeat (first | apply Kd.N_alloc | apply Kd.N_drewN | apply Kd.N_drew)); exact h_) : p := f h
theorem d0_ {p : Prop} (h : p := by repeat (first | exact zh.refl _ | apply zh.step)) : p := h
theorem rs_ {p : Prop} (h : p := by first | rfl | (simp [uJ, uK] <;> rfl) | (simp [*, uJ, uK] <;> rfl)) : p := h
theorem QK {p : Prop} (h : p := by first | exact Kd.QN _ _ _ _ _ | exact Kd.N_nil _ _ _ _ _ | exact Kd.V_nil _ _ _ _ _ | exact Kd.Q_nil _ _ _ _ _ | exact Kd.S_nil _ _ _ _ _) : p := h
theorem kp_ {p : Prop} (h : p := by repeat (first | (with_reducible first | exact HK.out | apply Kept.alloc | apply Kept.drewN | apply Kept.drew) | exact HK.out)) : p := h
theorem kb_ {p : Prop} (h : p := by repeat (first | (with_reducible first | exact HK.out | apply za.set_ | apply Za | apply ZN | apply QY) | exact HK.out)) : p := h
section
variable {w W W1 : World} {g : Nat} {row : Option Nat}
theorem kt_ (hk : za W W1 g row) (h : za w W g row := by repeat (first | (with_reducible first | exact HK.out | apply za.set_ | apply Za | apply ZN | apply QY) | exact HK.out)) : qa (za w W1 g row) := ⟨za.trans h hk (.inl rfl)⟩
theorem ku_ (hb : Below W.heap.size W W1) (h : za w W g none := by repeat (first | (with_reducible first | exact HK.out | apply za.set_ | apply Za | apply ZN | apply QY) | exact HK.out)) : qa (za w W1 g none) := ⟨za.trans h (za.of_below hb g none) (.inl rfl)⟩
theorem ks_ (h : za w W g none := by repeat (first | (with_reducible first | exact HK.out | apply za.set_ | apply Za | apply ZN | apply QY) | exact HK.out)) : w.heap.size ≤ W.heap.size := keep_size h
theorem zw (h : Below w.heap.size w W := by repeat (first | (with_reducible first | exact HB.out | apply jL | apply jW | apply zl | refine zD ?_ (qa.out (by assumption))) | exact HB.out)) : w.heap.size ≤ W.heap.size := qz h
theorem bs_ (hb : Below W.heap.size W W1) (h : Below w.heap.size w W := by repeat (first | (with_reducible first | exact HB.out | apply jL | apply jW | apply zl | refine zD ?_ (qa.out (by assumption))) | exact HB.out)) : qa (Below w.heap.size w W1) := ⟨wo h hb⟩
end
section
variable {α β : Type} {d : Kd α} {d' : Kd β} {e e' base base' : Nat} {ok ok' : Nat → Prop} {w W W1 : World} {v v' : Value} {xs : List α} {ys : List β}
theorem re_ (h : qa (d.R e w base ok v xs)) (h2 : d'.R e' W1 W.heap.size ok' v' ys) (hb : Below W.heap.size W W1) (f : d.R e w base ok v xs → d.R e W base ok v xs := by intro h_; (with_reducible repeat (first | apply Kd.wF | apply Kd.wD | apply Kd.jV)); exact h_) : qa (d.R e W1 base (fun k => ok k ∧ some k ≠ v'.ownBlock) v xs) := ⟨Kd.R_elder' (f h.out) (Kd.uV h2) hb⟩
theorem rb_ (h : qa (d.R e w base ok v xs)) (hb : Below W.heap.size W W1) (f : d.R e w base ok v xs → d.R e W base ok v xs := by intro h_; (with_reducible repeat (first | apply Kd.wF | apply Kd.wD | apply Kd.jV)); exact h_) : qa (d.R e W1 base ok v xs) := ⟨Kd.xk (f h.out) hb⟩
theorem fr_ (h : qa (d.R e w base ok v xs)) {W : World} (f : d.R e w base ok v xs → d.R e W base ok v xs := by intro h_; (with_reducible repeat (first | apply Kd.wF | apply Kd.wD | apply Kd.jV)); exact h_) : ∀ k, W.heap.size ≤ k → some k ≠ v.ownBlock := fun k hk => Kd.yD (Kd.xQ (f h.out)) k hk
theorem rn_ (h2 : d'.R e' W1 W.heap.size ok' v' ys) (h : qa (d.R e w base ok v xs)) (f : d.R e w base ok v xs → d.R e W base ok v xs := by intro h_; (with_reducible repeat (first | apply Kd.wF | apply Kd.wD | apply Kd.jV)); exact h_) : d'.R e' W1 W.heap.size (fun k => ok' k ∧ some k ≠ v.ownBlock) v' ys := Kd.uO h2 (Kd.xQ (f h.out))
end
section
variable {α β : Type} {x : Option α} {f : α → Option β} {r : β}
theorem bd_ (h : x.bind f = some r) : ∃ t, qa (x = some t) ∧ f t = some r := let ⟨t, a, b⟩ := Option.bind_eq_some_iff.mp h; ⟨t, ⟨a⟩, b⟩
theorem nm_ {e : α} (h : (some e).bind f = some r) : ∃ y, qa (y = e) ∧ f y = some r := ⟨e, ⟨rfl⟩, h⟩
end
section
variable {α : Type} {c : Prop} [Decidable c] {x y z : α} {o : Option α}
theorem ip_ (h : (if c then o else none) = some z) : c ∧ o = some z := by by_cases k : c; exact ⟨k, by rwa [if_pos k] at h⟩; rw [if_neg k] at h; cases h
theorem it_ (h : (if c then o else none) = some z) : decide c = true ∧ o = some z := ⟨decide_eq_true (ip_ h).1, (ip_ h).2⟩
theorem ia_ (h : (if c then o else none) = some z) : qa c ∧ o = some z := ⟨⟨(ip_ h).1⟩, (ip_ h).2⟩
theorem ic_ (h : (if c then x else y) = z) : (c ∧ x = z) ∨ (¬ c ∧ y = z) := by by_cases k : c; exact .inl ⟨k, by rwa [if_pos k] at h⟩; exact .inr ⟨k, by rwa [if_neg k] at h⟩
theorem id_ (h : (if c then x else y) = z) : (decide c = true ∧ x = z) ∨ (decide c = false ∧ y = z) := by rcases ic_ h with ⟨k, h⟩ | ⟨k, h⟩; exact .inl ⟨decide_eq_true k, h⟩; exact .inr ⟨decide_eq_false k, h⟩
theorem ie_ {a b : Int} (h : (if a = b then x else y) = z) : ((a == b) = true ∧ (a != b) = false ∧ x = z) ∨ ((a == b) = false ∧ (a != b) = true ∧ y = z) := by rcases ic_ h with ⟨k, h⟩ | ⟨k, h⟩; exact .inl ⟨beq_iff_eq.mpr k, bne_eq_false_iff_eq.mpr k, h⟩; exact .inr ⟨beq_eq_false_iff_ne.mpr k, bne_iff_ne.mpr k, h⟩
theorem yL {b : Bool} (h : (if b = true then x else y) = z) : (b = true ∧ x = z) ∨ (b = false ∧ y = z) := by rcases ic_ h with ⟨k, h⟩ | ⟨k, h⟩; exact .inl ⟨k, h⟩; exact .inr ⟨Bool.eq_false_iff.mpr k, h⟩
end
section
variable {P : Program} {ops : Array Oper} {Q : Exit → Act → World → Prop} {w : World}
theorem gc_ {rest : List Oper} {oi : Oper} {a : Act} {args : Array Value} {as : Array Operand} {ts : Array TypeId} {R : Ending → World → Prop} (f N : Nat) (hC : Calls P f args w R) (h : ∀ e w', R e w' → ∃ v, e = .returned v ∧ wpList P ops Q rest (a.put (some N) v) w')
    (hop : oi.op = .call { callee := .value (.func f), args := as, argTypes := ts } := by rfl) (hd : oi.dst = some N := by rfl) (hg : oi.guard = none := by rfl) (hf : (P.funcs[f]?).any (fun fn => !(fn.name == "runtime.NumGoroutine") && fn.body.isSome) = true := by kernel_rfl) (hargs : as.map a.eval = args := by (try simp only [List.map_toArray, List.map_cons, List.map_nil]); first | done | rfl | (simp only [List.length_drop, List.length_take]; rfl)) : wpList P ops Q (oi :: rest) a w := by
  cases hF : P.funcs[f]? with
  | none => rw [hF] at hf; cases hf
  | some fn =>
    rw [hF] at hf;simp only [Option.any_some, Bool.and_eq_true, Bool.not_eq_true'] at hf;exact goesL_ (some N) hd hg hF hf.1 hf.2 args hop hargs (hC.mono h)
end
section
variable {P : Program} {ops : Array Oper} {rest : List Oper} {o : Oper} {a : Act} {Q : Exit → Act → World → Prop} {W : World}
theorem gt_ (f : FuncId) {as : Array Operand} {ts : Array TypeId} (h : wpList P ops Q (o :: rest) a W) (_ho : o.op = .call { callee := .value (.func f), args := as, argTypes := ts } := by rfl) : wpList P ops Q (o :: rest) a W := h
end
section
variable {α : Type} {d : Kd α} {e base : Nat} {ok : Nat → Prop} {w W : World} {v : Value} {xs : List α}
theorem rr_ {W : World} (h : Kd.R d e w base ok v xs) (f : Kd.R d e w base ok v xs → Kd.R d e W base ok v xs := by intro h_; (with_reducible repeat (first | apply Kd.wF | apply Kd.wD | apply Kd.jV)); exact h_) : Kd.R d e W base ok v xs := f h
theorem nn_ {W : World} (h : Kd.N d e w base ok v xs) (f : Kd.N d e w base ok v xs → Kd.N d e W base ok v xs := by intro h_; (with_reducible repeat (first | apply Kd.N_alloc | apply Kd.N_drewN | apply Kd.N_drew)); exact h_) : Kd.N d e W base ok v xs := f h
theorem ss_ {W : World} (h : Kd.S d e w base ok v xs) (f : Kd.S d e w base ok v xs → Kd.S d e W base ok v xs := by intro h_; (with_reducible repeat (first | apply Kd.S_alloc | apply Kd.S_drewN | apply Kd.S_drew)); exact h_) : Kd.S d e W base ok v xs := f h
theorem vv_ {W : World} (h : Kd.V d e w base ok v xs) (f : Kd.V d e w base ok v xs → Kd.V d e W base ok v xs := by intro h_; (with_reducible repeat (first | apply Kd.V_alloc | apply Kd.V_drewN | apply Kd.V_drew)); exact h_) : Kd.V d e W base ok v xs := f h
end
theorem mn_ {p : Prop} (h : p := by repeat' first | (with_reducible first | exact ih0 .. | exact ih1 .. | exact ih2 .. | exact ih3 .. | exact ih4 .. | exact ih5 .. | exact ih6 .. | exact ih7 .. | exact m0 .. | exact m1 .. | exact m2 .. | exact m3 .. | exact m4 .. | exact m5 .. | exact m6 .. | exact m7 .. | exact LeO.refl _ | exact LeO.none _ | refine LeO.ite ?_ ?_ | refine LeO.bind ?_ (fun _ => ?_)) | exact ih0 .. | exact ih1 .. | exact ih2 .. | exact ih3 .. | exact ih4 .. | exact ih5 .. | exact ih6 .. | exact ih7 .. | exact m0 .. | exact m1 .. | exact m2 .. | exact m3 .. | exact m4 .. | exact m5 .. | exact m6 .. | exact m7 .. | exact LeO.none _ | refine LeO.ite ?_ ?_ | refine LeO.bind ?_ (fun _ => ?_)) : p := h
theorem hc_ {w W : World} {p : Addr} {v : Value} (h : w.cell? p = some v) (hb : Below w.heap.size w W := by exact HB.out) : W.cell? p = some v := (hb.cell (World.block_lt_of_cell? w _ h)).trans h
theorem xV {w : World} {A : Option Addr} {n : Nat} {k : IntKind} {xs : List Int} (h : (Kd.int k).C w A n xs) (i : Int) (h0 : 0 ≤ i := by exact qI) (h1 : i < n := by exact qI) : (0 ≤ i) = True ∧ (i < n) = True ∧ ∃ ad, A = some ad ∧ w.cell? (ad.add i.toNat) = some (.int k (rd xs i)) := ⟨eq_true h0, eq_true h1, Kd.wu h i h0 h1⟩
section
variable {α : Type} {d : Kd α} {e base n : Nat} {ok ok' : Nat → Prop} {w W W1 : World} {A : Option Addr} {v v' : Value} {xs ys : List α} {S : Nat → Prop}
theorem ny_ (h : qa (ys = xs)) (h2 : d.R e w base ok v xs) : d.R e w base ok v ys := h.out ▸ h2
theorem nyN_ (h : qa (ys = xs)) (h2 : Kd.N d e w base ok v xs) : Kd.N d e w base ok v ys := h.out ▸ h2
theorem nyS_ (h : qa (ys = xs)) (h2 : Kd.S d e w base ok v xs) : Kd.S d e w base ok v ys := h.out ▸ h2
theorem cb_ (h : qa (d.C w A n xs)) (hb : Below W.heap.size W W1) (f : d.C w A n xs → d.C W A n xs := by intro h_; repeat (first | exact h_ | (with_reducible refine Kd.Qa ?_ _) | (with_reducible refine Kd.Qb ?_ _) | (with_reducible refine Kd.Qr ?_))) : qa (d.C W1 A n xs) := ⟨Kd.zF (f h.out) hb⟩
end
def bitsOf (T : List (List Nat × List Nat)) : List Nat := T.foldl (fun B r => B ++ [upM B B.length r.1]) []
section
variable {P : Program} {ops : Array Oper} {Q : Exit → Act → World → Prop}
theorem wG {id : Nat} {a : Act} {w : World} {l : Array Bool} (c : Func) (k n : Nat) (ds : List Nat) (S : World → Prop) (hS : S w.drew) (h : S w.drew → qa (wQ .any ops = wQ .any (opsOf c k)) → qa (Zj (wQ .any (opsOf c k)).2 (bitsOf (wQ .any (opsOf c k)).2) = true) → zn P .any ops Q S ds n l a w.drew)
    (hl : Array.replicate n false = l := by simp only [Array.replicate_succ, Array.replicate_zero, List.push_toArray, List.append_toArray, List.nil_append, List.cons_append]; rfl) (hm : P.follows .mixedOrders = true := by kernel_rfl) (hn : ops.size = n := by rfl) (hT : wQ .any ops = wQ .any (opsOf c k) := by kernel_rfl) (hB : Zj (wQ .any (opsOf c k)).2 (bitsOf (wQ .any (opsOf c k)).2) = true := by kernel_rfl) : (Code.region id ops true).wp P Q a w := start_ l hm hn hl hS fun hs => h hs ⟨hT⟩ ⟨hB⟩
section
variable {rest : List Oper} {o : Oper} {a : Act} {W : World} {Kc : Act → World → Prop} {α : Type}
theorem gd_ (N : Tmp) (h : wpList P ops Q (o :: rest) a W) (_hN : o.dst = some N := by rfl) : wpList P ops Q (o :: rest) a W := h
theorem ga_ (s x : Nat) {ts : Array TypeId} (h : wpList P ops Q (o :: rest) a W) (_ho : o.op = .call { callee := .builtin .append, args := #[.tmp s, .tmp x], argTypes := ts } := by rfl) : wpList P ops Q (o :: rest) a W := h
theorem gs_ (t p : Nat) {v : Operand} (h : wpList P ops Q (o :: rest) a W) (_ho : o.op = .store t (.tmp p) v := by rfl) : wpList P ops Q (o :: rest) a W := h
theorem Zc (N : Tmp) (d : Kd α) (e : Nat) (xs : List α) (inner : List Value) (h : ∀ v1 w1, d.R e w1 W.heap.size (fun _ => True) v1 xs → Below W.heap.size W w1 → wpList P ops Q rest (a.put o.dst v1) w1) (hg : o.guard = none := by rfl) (hd : o.dst = some N := by rfl)
    (hr : (execOp a.eval o).run P W = .ok (.value (.slice (some ⟨W.heap.size, 0, none⟩) xs.length xs.length)) (W.alloc (.cells inner.toArray e)) := by first | (go_simp; done) | (go_simp; rfl)) (hp : zQ (d.M W W.heap.size fun _ => True) d.sz xs inner := by repeat (first | exact zQ.none _ _ | refine zQ.one rfl ?_ | refine zQ.c2 (xx _ _ _ _) ?_)) (hm : xs.length ≤ 9223372036854775807 := by simp) : wpList P ops Q (o :: rest) a W := Kd.J5 d _ e hg hd hr hp (fun _ h => h) trivial (Below.refl _ _) (Nat.le_refl _) hm fun v w h1 h2 _ _ => h v w h1 h2
theorem rls_ (N : Tmp) (d : Kd α) (e : Nat) (xs : List α) (inner : List Value) (h : ∀ v1 w1, d.R e w1 W.heap.size (fun _ => True) v1 xs → Below W.heap.size W w1 → Kc (a.put o.dst v1) w1) (hg : Region.wanted o (yielded ops a.tmps) = true := by rfl) (hd : o.dst = some N := by rfl)
    (hr : (execOp a.eval o).run P W = .ok (.value (.slice (some ⟨W.heap.size, 0, none⟩) xs.length xs.length)) (W.alloc (.cells inner.toArray e)) := by first | (go_simp; done) | (go_simp; rfl)) (hp : zQ (d.M W W.heap.size fun _ => True) d.sz xs inner := by repeat (first | exact zQ.none _ _ | refine zQ.one rfl ?_ | refine zQ.c2 (xx _ _ _ _) ?_)) (hm : xs.length ≤ 9223372036854775807 := by simp) : if Region.wanted o (yielded ops a.tmps) = true then Oper.wp P o a W Kc Q else Kc (a.put o.dst undef) W := Kd.vL d _ e hg hd hr hp (fun _ h => h) trivial (Below.refl _ _) (Nat.le_refl _) hm fun v w h1 h2 _ _ => h v w h1 h2
end
end
section
variable {w : World} {g : Nat} {t : TypeId} {x y z v : Value}
theorem put1_ (h : w.heap[g]? = some (.cells #[x, z] t (0, 0))) : (w.setCell ⟨g, 1, none⟩ v).heap[g]? = some (.cells #[x, v] t (0, 0)) := wE h 1 v rfl
theorem put0_ (h : w.heap[g]? = some (.cells #[z, y] t (0, 0))) : (w.setCell ⟨g, 0, none⟩ v).heap[g]? = some (.cells #[v, y] t (0, 0)) := wE h 0 v rfl
theorem put_ (h : w.heap[g]? = some (.cells #[z] t (0, 0))) : (w.setCell ⟨g, 0, none⟩ v).heap[g]? = some (.cells #[v] t (0, 0)) := wE h 0 v rfl
end
theorem bw_ {p q : Prop} (h : qa q) (f : q → p := by intro h_; repeat (first | (with_reducible first | exact h_ | refine wC ?_ _ | refine y9 ?_ | refine uL ?_ _) | apply put1_ | apply put0_ | apply put_ | refine Ze ?_ (qa.out (by assumption)) _ | exact h_)) : p := f h.out
theorem bx1_ {w : World} {g : Nat} {t : TypeId} {x : Value} (h : qa (w.heap[g]? = some (.cells #[x] t (0, 0)))) : w.cell? ⟨g, 0, none⟩ = some x ∧ w.frozen? ⟨g, 0, none⟩ = false := ⟨Zm x h 0, zJ h.out 0⟩
theorem vB {w : World} {g : Nat} {t : TypeId} {x y : Value} (h : qa (w.heap[g]? = some (.cells #[x, y] t (0, 0)))) : w.cell? ⟨g, 0, none⟩ = some x ∧ w.cell? ⟨g, 1, none⟩ = some y ∧ w.frozen? ⟨g, 0, none⟩ = false ∧ w.frozen? ⟨g, 1, none⟩ = false := ⟨Zm x h 0, Zm y h 1, zJ h.out 0, zJ h.out 1⟩
section
variable {α : Type} {d : Kd α} {e base : Nat} {ok : Nat → Prop} {w : World} {v x y : Value} {xs : List α}
theorem rf2_ (g : Nat) (h : d.R e w base ok v xs) (hk : ∀ k, ok k → k ≠ g := by exact fun _ hk => hk.2) : d.R e ((w.setCell ⟨g, 0, none⟩ x).setCell ⟨g, 1, none⟩ y) base ok v xs := Kd.R_far (p := ⟨g, 1, none⟩) (Kd.R_far (p := ⟨g, 0, none⟩) h hk x) hk y
theorem ne2_ (g : Nat) (h : qa (d.R e w base ok v xs)) (hk : ∀ k, ok k → k ≠ g := by exact fun _ hk => hk.2) : d.R e w base (fun k => ok k ∧ k ≠ g) v xs := Kd.qj h.out fun k h => ⟨h, hk k h⟩
end
theorem sx_ {α : Type} {r : α} (F : Nat → Option α) (k : Nat) (h : qa (F k = some r)) (h0 : F 0 = none := by rfl) : ∃ j, k = j + 1 ∧ F (j + 1) = some r := by cases k with
  | zero => rw [h0] at h; cases h.out
  | succ j => exact ⟨j, rfl, h.out⟩
end Go.Proofs.YtgblginphicacaaGreatW.PrintWords
