-- WRITTEN BY A PROGRAM OF THIS WORK (wip/tools/ppatch.py) for this claim.
import Derived.Test.YtgblginphicacaaGreatPFnClassesToldx0
import Derived.Test.YtgblginphicacaaGreatPFnClassesToldx5
import Derived.Test.YtgblginphicacaaGreatPFnClassesToldx6
import Derived.Test.YtgblginphicacaaGreatPFnClassesToldx7
namespace Go.Proofs.YtgblginphicacaaGreat.PFnClassesTold
open Go.RowKit Go.Proofs.YtgblginphicacaaGreatW.PrintWords Go.Proofs.YtgblginphicacaaGreatW.PrintLast Go.Proofs.YtgblginphicacaaGreatW.PrintMore
set_option maxHeartbeats 8000000
set_option maxRecDepth 100000
attribute [local go_sem] yT yV vX vY jX jY yU yX   -- for this text's walks alone
set_option linter.unusedVariables false
set_option linter.unusedSimpArgs false

/-! ### z8: function 79 -/
def xe (d e : S62) : Bool := decide (d.f0 < e.f0 ∧ e.f0 < d.f1 ∧ d.f1 < e.f1) || decide (e.f0 < d.f0 ∧ d.f0 < e.f1 ∧ e.f1 < d.f1)
/-- All ways to go on from b by elements of the list, in order, till there are m. -/
def uZ (m : Int) : List S62 → List S62 → List (List S62)
 | [], _ => []
 | d :: r, b => (if b.any (xe d) = true then [] else if ((b ++ [d]).length : Int) = m then [b ++ [d]] else uZ m r (b ++ [d])) ++ uZ m r b
def xE (m : Int) (r b : List S62) : List (List S62) := if (b.length : Int) = m then [b] else uZ m r b
theorem kH (m : Int) (d : S62) (r b : List S62) : uZ m (d :: r) b = (if b.any (xe d) = true then [] else xE m r (b ++ [d])) ++ uZ m r b := rfl
theorem JH (m : Int) : ∀ (r b : List S62), (uZ m r b).length + 1 ≤ 2 ^ r.length
 | [], _ => Nat.le_refl _
 | d :: r, b => by
  have h1 := JH m r b;have h2 := JH m r (b ++ [d]);have h3 : 1 ≤ 2 ^ r.length := Nat.one_le_two_pow;have h4 : 2 ^ (r.length + 1) = 2 ^ r.length * 2 := Nat.pow_succ ..;rw [kH, List.length_append, List.length_cons, h4];unfold xE;split
  ·simp only [List.length_nil];omega
  ·split
   ·simp only [List.length_singleton];omega
   ·omega
theorem lookL_step (m : Int) (all b : List S62) (i : Nat) (h : i < all.length) : uZ m (all.drop i) b = (if b.any (xe (qb all (i : Int))) = true then [] else xE m (all.drop (i + 1)) (b ++ [qb all (i : Int)])) ++ uZ m (all.drop (i + 1)) b := by
 have e : qb all (i : Int) = all[i] := by
  unfold qb;rw [Int.toNat_natCast, List.getD_eq_getElem?_getD, List.getElem?_eq_getElem h];rfl
 rw [List.drop_eq_getElem_cons h, kH, e]
theorem look_any (d : S62) (b : List S62) (j : Nat) (h : j < b.length) : (b.drop j).all (fun e => !xe d e) = (!xe d (qb b (j : Int)) && (b.drop (j + 1)).all (fun e => !xe d e)) := by
 have e : qb b (j : Int) = b[j] := by
  unfold qb;rw [Int.toNat_natCast, List.getD_eq_getElem?_getD, List.getElem?_eq_getElem h];rfl
 rw [List.drop_eq_getElem_cons h, List.all_cons, e]
theorem look_all (d : S62) (b : List S62) : b.all (fun e => !xe d e) = !(b.any (xe d)) := by
 induction b with
 | nil => rfl
 | cons x r ih => rw [List.all_cons, List.any_cons, ih, Bool.not_or]
/-- The list that is being made: the box's content v, the lists xs; what was there ahead of w0 stands. -/
structure Lk (w0 : World) (gb : Nat) (w : World) (v : Value) (xs : List (List S62)) : Prop where
 box : w.heap[gb]? = some (.cells #[v] 25 (0, 0))
 row : Kd.S (Kd.slice 62 k62) 32 w w0.heap.size (fun _ => True) v xs
 bel : Below w0.heap.size w0 w
 gbe : w0.heap.size ≤ gb
/-- Whatever else was there stands; v' is where v was, or newer. -/
structure kE (gb : Nat) (w : World) (v : Value) (w' : World) (v' : Value) : Prop where
 kept : Kept w w' (fun k => k = gb ∨ some k = v.ownBlock)
 own : v'.ownBlock = v.ownBlock ∨ ∃ b, v'.ownBlock = some b ∧ w.heap.size ≤ b
/-- A list that is read, apart from the list that is being made. -/
structure LkR (gb : Nat) (w : World) (v : Value) (A : Option Addr) (l : List S62) : Prop where
 c : Kd.C k62 w A l.length l
 far : ∀ a, A = some a → l ≠ [] → a.block ≠ gb ∧ some a.block ≠ v.ownBlock
theorem lk_add (a : Addr) (n : Nat) : (a.add n).block = a.block := by
 unfold Addr.add;split <;> rfl
theorem lk_blk {w : World} {A : Option Addr} {l : List S62} (h : Kd.C k62 w A l.length l) (hne : l ≠ []) (a : Addr) (ha : A = some a) : a.block < w.heap.size := by
 have hp := List.length_pos_iff.2 hne;obtain ⟨ad, e, hc⟩ := h.2.2 hp;rw [ha] at e;injection e with e;subst e;obtain ⟨c, hs, hr, hcell⟩ := hc 0 _ (List.getElem?_eq_getElem hp);obtain rfl := ZC hr;have h1 := World.block_lt_of_cell? w _ (hcell 0 _ rfl);rwa [lk_add] at h1
theorem lk_move {w w1 : World} {A : Option Addr} {l : List S62} (h : Kd.C k62 w A l.length l) (hne : ∀ a, l ≠ [] → A = some a → a.block < w.heap.size → w1.heap[a.block]? = w.heap[a.block]?) : Kd.C k62 w1 A l.length l := by
 refine ⟨h.1, h.2.1, fun hn => ?_⟩;obtain ⟨ad, e, hc⟩ := h.2.2 hn;refine ⟨ad, e, fun j p hj => ?_⟩;obtain ⟨c, hs, hr, hcell⟩ := hc j p hj
 have hr2 : k62.K w1 p c := by
  obtain rfl := ZC hr;exact k62_mk w1 p
 refine ⟨c, hs, hr2, fun i u hu => ?_⟩;have h1 := hcell i u hu;have h2 := World.block_lt_of_cell? w _ h1;rw [lk_add] at h2;have h3 : w1.cell? (ad.add (j * k62.sz + i)) = w.cell? (ad.add (j * k62.sz + i)) := World.cell?_of_block (by rw [lk_add]; exact hne ad (List.length_pos_iff.1 hn) e h2);exact h3.trans h1
theorem kE.refl (gb : Nat) (w : World) (v : Value) : kE gb w v w v := ⟨Kept.refl _ _, .inl rfl⟩
theorem kE.trans {gb : Nat} {w w1 w2 : World} {v v1 v2 : Value} (h : kE gb w v w1 v1) (k : kE gb w1 v1 w2 v2) : kE gb w v w2 v2 := by
 refine ⟨h.kept.then_ k.kept (fun k hk => ?_), ?_⟩
 ·rcases hk with hk | hk
  ·exact .inl (.inl hk)
  ·rcases h.own with h1 | ⟨b, h1, h2⟩
   ·exact .inl (.inr (hk.trans h1))
   ·rw [h1] at hk;injection hk with hk;exact .inr (by omega)
 ·rcases k.own with k1 | ⟨b, k1, k2⟩
  ·rcases h.own with h1 | ⟨b, h1, h2⟩
   ·exact .inl (k1.trans h1)
   ·exact .inr ⟨b, k1.trans h1, h2⟩
  ·exact .inr ⟨b, k1, Nat.le_trans h.kept.1 k2⟩
theorem kE.below {gb : Nat} {w w1 w2 : World} {v v1 : Value} (h : kE gb w v w1 v1) (hb : Below w1.heap.size w1 w2) : kE gb w v w2 v1 := ⟨h.kept.below hb, h.own⟩
theorem LkR.to {gb : Nat} {w w1 : World} {v v1 : Value} {A : Option Addr} {l : List S62} (h : LkR gb w v A l) (k : kE gb w v w1 v1) : LkR gb w1 v1 A l := by
 refine ⟨lk_move h.c (fun a hn ha hl => k.kept.2 _ hl (fun he => ?_)), fun a ha hn => ⟨(h.far a ha hn).1, fun he => ?_⟩⟩
 ·rcases he with he | he
  ·exact (h.far a ha hn).1 he
  ·exact (h.far a ha hn).2 he
 ·rcases k.own with k1 | ⟨b, k1, k2⟩
  ·exact (h.far a ha hn).2 (he.trans k1)
  ·rw [k1] at he;injection he with he;have := lk_blk h.c hn a ha;omega
theorem LkR.below {gb : Nat} {w w1 : World} {v : Value} {A : Option Addr} {l : List S62} (h : LkR gb w v A l) (hb : Below w.heap.size w w1) : LkR gb w1 v A l := h.to ((kE.refl gb w v).below hb)
theorem Lk.below {w0 w w1 : World} {gb : Nat} {v : Value} {xs : List (List S62)} (h : Lk w0 gb w v xs) (hb : Below w.heap.size w w1) : Lk w0 gb w1 v xs :=
 ⟨(hb.block _ (jI h.box)).trans h.box, Kd.wT h.row hb, h.bel.trans (hb.mono (qz h.bel)), h.gbe⟩
theorem LkR.drop {gb : Nat} {w : World} {v : Value} {A : Option Addr} {l : List S62} (h : LkR gb w v A l) (m c : Nat) (hm : m ≤ l.length) (hc : l.length ≤ c) : LkR gb w v (if c = m then A else A.map (·.add (m * 2))) (l.drop m) := by
 refine ⟨Kd.wU h.c hm hc, fun a ha hn => ?_⟩;have hl : l ≠ [] := fun e => hn (by rw [e, List.drop_nil]);split at ha
 ·exact h.far a ha hl
 ·cases A with
  | none => cases ha
  | some ad =>
   simp only [Option.map_some, Option.some.injEq] at ha;have := h.far ad rfl hl;rw [← ha, lk_add];exact this
/-- A list of one's own that is newer than the list that is being made. -/
theorem LkR.new {gb c : Nat} {w w1 : World} {v : Value} {A : Option Addr} {l : List S62} {w0 : World} {xs : List (List S62)} (hL : Lk w0 gb w v xs) (h : Kd.R k62 62 w1 w.heap.size (fun _ => True) (.slice A l.length c) l) : LkR gb w1 v A l := by
 refine ⟨(Kd.qc h).2.2, fun a ha hn => ?_⟩;subst ha;obtain ⟨g, rfl⟩ := Kd.R_head h;have h1 : w.heap.size ≤ g := Kd.uV h g rfl;have h2 := jI hL.box;refine ⟨fun e => ?_, fun e => ?_⟩
 ·have e : g = gb := e;omega
 ·have := Kd.S_lt hL.row g e.symm;omega
/-- The new list is stored into the box. -/
theorem lk_put {w0 w W w8 : World} {gb : Nat} {v v8 : Value} {xs ys : List (List S62)} (hL : Lk w0 gb W v xs) (hT : kE gb w v W v) (hb : W.heap[gb]? = some (.cells #[v] 25 (0, 0))) (h8 : Kd.S (Kd.slice 62 k62) 32 w8 w0.heap.size (fun _ => True) v8 ys) (hB : Below w0.heap.size w0 w8) (hg : W.grownBy w8 v.ownBlock) (hat : v8.ownBlock = v.ownBlock ∨ ∃ b, v8.ownBlock = some b ∧ W.heap.size ≤ b) :
  Lk w0 gb (w8.setCell ⟨gb, 0, none⟩ v8) v8 ys ∧ kE gb w v (w8.setCell ⟨gb, 0, none⟩ v8) v8 := by
 have hne : some gb ≠ v.ownBlock := fun e => by
  obtain ⟨cells, hc⟩ := Kd.Q6 hL.row gb e.symm;rw [hb] at hc;injection hc with hc;injection hc with _ ht;exact absurd ht (by decide)
 have hb8 : w8.heap[gb]? = some (.cells #[v] 25 (0, 0)) := (hg.block gb (jI hb) hne).trans hb;refine ⟨⟨Jy hb8 0 v8, Kd.S_set h8 hb8 (by decide) 0 v8, hB.setCell (show w0.heap.size ≤ (⟨gb, 0, none⟩ : Addr).block from hL.gbe) v8, hL.gbe⟩, ?_, ?_⟩
 ·refine Kept.setCell ?_ (.inl (.inl rfl)) v8;exact Kept.uR hg hT.kept (fun k hk => .inl (.inr hk.symm))
 ·rcases hat with h1 | ⟨b, h1, h2⟩
  ·exact .inl h1
  ·exact .inr ⟨b, h1, Nat.le_trans hT.kept.1 h2⟩
/-- What such a search leaves. -/
def LkPost (w0 : World) (gb : Nat) (w : World) (v : Value) (ys : List (List S62)) (e : Ending) (w' : World) : Prop := e = .returned (.tuple #[]) ∧ ∃ v', Lk w0 gb w' v' ys ∧ kE gb w v w' v'

def idxOf {α : Type} (p : α → Bool) : List α → Nat → Int
 | [], _ => -1
 | x :: l, i => if p x = true then (i : Int) else idxOf p l (i + 1)
theorem Zn {α : Type} (p : α → Bool) (l : List α) : ∀ i : Nat, 0 ≤ idxOf p l i ↔ l.any p = true := by
 induction l with
 | nil => intro i; simp [idxOf]
 | cons x l ih =>
  intro i;rw [List.any_cons];unfold idxOf;by_cases h : p x = true
  ·rw [if_pos h, h];simp
  ·rw [if_neg h, Bool.eq_false_iff.mpr h, Bool.false_or];exact ih _
theorem idxOf_any {α : Type} (p : α → Bool) (l : List α) (i : Nat) : decide (idxOf p l i ≥ 0) = l.any p := by
 rw [Bool.eq_iff_iff, decide_eq_true_iff];exact Zn p l i
theorem kG {α : Type} (p : α → Bool) (d : α) (l : List α) (i : Nat) (h : i < l.length) : idxOf p (l.drop i) i = if p (l.getD i d) = true then (i : Int) else idxOf p (l.drop (i + 1)) (i + 1) := by
 rw [List.drop_eq_getElem_cons h, List.getD_eq_getElem?_getD, List.getElem?_eq_getElem h];rfl

set_option maxHeartbeats 2000000 in
theorem IndexFuncM62 (p : S62 → Bool) (g : Nat) (lb : Array Value) (eg : ∀ args w, (callFunc g args).run Tryz.prog w = .ok (.enter g args) w) (A0 : Option Addr) (c0 : Nat) (l0 : List S62) (w : World) (hr0 : Kd.C k62 w A0 l0.length l0)
  (hp : ∀ (W : World) (x : S62), x ∈ l0 → Below w.heap.size w W → Calls Tryz.prog g (#[.agg #[.int .i64 x.f0, .int .i64 x.f1]] ++ lb) W fun e w' => e = .returned (.bool (p x)) ∧ Below W.heap.size W w') :
  Calls Tryz.prog 97 #[.slice A0 l0.length c0, .func (.func g) #[] lb] w fun e w' => e = .returned (.int .i64 (idxOf p l0 0)) ∧ Below w.heap.size w w' := by
 have hbig : l0.length ≤ 9223372036854775807 := hr0.2.1;have HR0 := qa.mk hr0;have HP := qa.mk hp;clear hr0 hp;go_enter Tryz.func97, Tryz.ntmps97;go_wp2;go_loopg [5, 8] l0.length (fun gg _ s8 wr => ∃ i : Nat, i ≤ l0.length ∧ l0.length - i ≤ gg ∧ s8 = .int .i64 i ∧ qa (idxOf p l0 0 = idxOf p (l0.drop i) i) ∧ qa (Below w.heap.size w wr));(case atStart => exact ⟨0, Nat.zero_le _, by omega, rfl, ⟨by rw [List.drop_zero]⟩, ⟨Below.refl _ w⟩⟩);case round =>
  obtain ⟨i, hi, hg, rfl, HX, HB⟩ := hrel;by_cases hlt : i < l0.length
  ·have p0 : (0 : Int) ≤ (i : Int) := (by omega);have q0 : (i : Int) < (l0.length : Int) := (by omega);obtain ⟨ad, rfl, h0, h1⟩ := at_T62 (Kd.zF HR0.out HB.out) (i : Int) p0 q0;simp only [Int.toNat_natCast] at h0 h1;have hstep := kG p z62 l0 i hlt
   have hmem : qb l0 (i : Int) ∈ l0 := by
    unfold qb;rw [Int.toNat_natCast, List.getD_eq_getElem?_getD, List.getElem?_eq_getElem hlt];exact List.getElem_mem _
   have hcall := HP.out wr (qb l0 (i : Int)) hmem HB.out;clear hmem;have erd : qb l0 (i : Int) = l0.getD i z62 := (by unfold qb; rw [Int.toNat_natCast]);rw [← erd] at hstep;clear erd;generalize qb l0 (i : Int) = x at h0 h1 hstep hcall;cases hq : p x with
   | true =>
    rw [hq] at hcall hstep;have HC := Lib.hid hcall;have HS := Lib.hid hstep;clear hcall hstep hq;go_wp2_with (go_at_fn g; refine HC.out.mono ?_; rintro e w' ⟨rfl, hb'⟩);go_ret;exact ⟨by rw [HX.out, HS.out]; rfl, HB.out.trans (hb'.mono (qz HB.out))⟩
   | false =>
    rw [hq] at hcall hstep;have HC := Lib.hid hcall;have HS := Lib.hid hstep;clear hcall hstep hq;go_wp2_with (go_at_fn g; refine HC.out.mono ?_; rintro e w' ⟨rfl, hb'⟩);go_roundg (l0.length - (i + 1));(case measure => omega);case rel => exact ⟨i + 1, by omega, by omega, by go_num, ⟨by rw [HX.out, HS.out]; rfl⟩, ⟨HB.out.trans (hb'.mono (qz HB.out))⟩⟩
  ·have hltz : ¬ (i : Int) < (l0.length : Int) := (by omega);go_wp2;go_ret;exact ⟨by rw [HX.out, List.drop_of_length_le (by omega)]; rfl, HB.out⟩

set_option maxHeartbeats 2000000 in
theorem ContainsFuncM62 (p : S62 → Bool) (g : Nat) (lb : Array Value) (eg : ∀ args w, (callFunc g args).run Tryz.prog w = .ok (.enter g args) w) (A0 : Option Addr) (c0 : Nat) (l0 : List S62) (w : World) (hr0 : Kd.C k62 w A0 l0.length l0)
  (hp : ∀ (W : World) (x : S62), x ∈ l0 → Below w.heap.size w W → Calls Tryz.prog g (#[.agg #[.int .i64 x.f0, .int .i64 x.f1]] ++ lb) W fun e w' => e = .returned (.bool (p x)) ∧ Below W.heap.size W w') :
  Calls Tryz.prog 63 #[.slice A0 l0.length c0, .func (.func g) #[] lb] w fun e w' => e = .returned (.bool (l0.any p)) ∧ Below w.heap.size w w' := by
 have HC := qa.mk (IndexFuncM62 p g lb eg A0 c0 l0 w hr0 hp);have ha := idxOf_any p l0 0;clear hr0 hp;have HA := qa.mk ha;clear ha;go_enter Tryz.func63, Tryz.ntmps63;go_wp2_with (go_at_call 97; refine HC.out.mono ?_; rintro e w1 ⟨rfl, hb⟩; have HB := qa.mk hb; clear hb);go_ret;exact ⟨by rw [← HA.out]; rfl, HB.out⟩

theorem doCross_is (d e : S62) : xK.f d.f0 d.f1 e.f0 e.f1 = some (xe d e) := by
 unfold xK.f xe;(repeat' split);all_goals (congr 1; rw [Bool.eq_iff_iff]; simp only [Bool.or_eq_true, decide_eq_true_eq, Bool.false_eq_true, iff_false, iff_true, true_iff, false_iff]; omega)
theorem gr_info : (Tryz.prog.info? 32).map (fun i => (i.zero, i.size, i.bytes)) = some (some (.slice none 0 0), 1, 24) := by kernel_rfl
theorem growLit_calls (e x : S62) (ga gi : Nat) (Aa : Option Addr) (ca : Nat) (all : List S62) (i : Nat) (hi : i < all.length) (hx : qb all (i : Int) = x) (w : World) (hba : w.heap[ga]? = some (.cells #[.slice Aa all.length ca] 32 (0, 0))) (hbi : w.heap[gi]? = some (.cells #[.int .i64 i] 3 (0, 0))) (hC : Kd.C k62 w Aa all.length all) :
  Calls Tryz.prog 112 (#[.agg #[.int .i64 e.f0, .int .i64 e.f1]] ++ #[.pointer (some ⟨ga, 0, none⟩), .pointer (some ⟨gi, 0, none⟩)]) w fun e' w' => e' = .returned (.bool (xe x e)) ∧ Below w.heap.size w w' := by
 have p0 : (0 : Int) ≤ (i : Int) := (by omega);have q0 : (i : Int) < (all.length : Int) := (by omega);obtain ⟨ad, rfl, h0, h1⟩ := at_T62 hC (i : Int) p0 q0;simp only [Int.toNat_natCast] at h0 h1;rw [hx] at h0 h1;have HA := qa.mk hba;have HI := qa.mk hbi;have H0 := qa.mk h0;have H1 := qa.mk h1;clear hba hbi hC h0 h1 hx;replace p0 := eq_true p0;replace q0 := eq_true q0;show Calls Tryz.prog 112 #[.agg #[.int .i64 e.f0, .int .i64 e.f1], .pointer (some ⟨ga, 0, none⟩), .pointer (some ⟨gi, 0, none⟩)] w _;go_enter Tryz.func112, Tryz.ntmps112;go_wp2_with ((with_reducible refine gd_ 3 ?_); refine jO 3 #[.int .i64 e.f0, .int .i64 e.f1] 62 ?_; intro ge hg w3 hbox hb3; have HX3 := qa.mk hbox; have HB3 := qa.mk hb3; clear hbox hb3 hg);have hs0 : w3.cell? ⟨ga, 0, none⟩ = some (.slice (some ad) all.length ca) := (qh ((HB3.out.block ga (jI HA.out)).trans HA.out) 0).trans rfl;have hs1 : w3.cell? ⟨gi, 0, none⟩ = some (.int .i64 i) := (qh ((HB3.out.block gi (jI HI.out)).trans HI.out) 0).trans rfl;have hs2 : w3.cell? (ad.add (i * 2)) = some (.int .i64 x.f0) := (HB3.out.cell (World.block_lt_of_cell? _ _ H0.out)).trans H0.out;have hs3 : w3.cell? ⟨(ad.add (i * 2)).block, (ad.add (i * 2)).off + 1, none⟩ = some (.int .i64 x.f1) := (HB3.out.cell (World.block_lt_of_cell? _ _ H1.out)).trans H1.out;have hs4 : w3.cell? ⟨ge, 0, none⟩ = some (.int .i64 e.f0) := (qh HX3.out 0).trans rfl;have hs5 : w3.cell? ⟨ge, 1, none⟩ = some (.int .i64 e.f1) := (qh HX3.out 1).trans rfl;replace HB3 := qa.mk (uA HB3.out);refine wG Tryz.f112 1 7 [] (fun w' => w'.cell? ⟨ga, 0, none⟩ = some (.slice (some ad) all.length ca) ∧ w'.cell? ⟨gi, 0, none⟩ = some (.int .i64 i) ∧ w'.cell? (ad.add (i * 2)) = some (.int .i64 x.f0) ∧ w'.cell? ⟨(ad.add (i * 2)).block, (ad.add (i * 2)).off + 1, none⟩ = some (.int .i64 x.f1) ∧ w'.cell? ⟨ge, 0, none⟩ = some (.int .i64 e.f0) ∧ w'.cell? ⟨ge, 1, none⟩ = some (.int .i64 e.f1)) ⟨hs0, hs1, hs2, hs3, hs4, hs5⟩ (fun hHeld HT_ HW_ => ?_);generalize w3.drew = w4 at hHeld HB3 ⊢;refine xF 0 5 HT_ HW_ hHeld ?_;refine xF 1 6 HT_ HW_ hHeld ?_;refine qo 2 7 HT_ ?_;refine xF 3 8 HT_ HW_ hHeld ?_;refine xF 4 9 HT_ HW_ hHeld ?_;refine yJ 5 10 HT_ (fun K hK => ?_);refine uN Tryz.func65 (by kernel_rfl) rfl #[.agg #[.int .i64 x.f0, .int .i64 x.f1], .agg #[.int .i64 e.f0, .int .i64 e.f1]] (by rfl) rfl rfl (by (try simp only [List.map_toArray, List.map_cons, List.map_nil]); first | done | rfl) ?_;(with_reducible refine (xK.calls x.f0 x.f1 e.f0 e.f1 (xe x e) _ (doCross_is x e)).mono ?_);rintro e1 w10 ⟨rfl, hb10⟩;refine ⟨_, rfl, ?_⟩;have HB10 := qa.mk hb10;clear hb10;refine hK.out _ _ ⟨(HB10.out.cell (World.block_lt_of_cell? _ _ (hHeld.1))).trans (hHeld.1), (HB10.out.cell (World.block_lt_of_cell? _ _ (hHeld.2.1))).trans (hHeld.2.1), (HB10.out.cell (World.block_lt_of_cell? _ _ (hHeld.2.2.1))).trans (hHeld.2.2.1), (HB10.out.cell (World.block_lt_of_cell? _ _ (hHeld.2.2.2.1))).trans (hHeld.2.2.2.1), (HB10.out.cell (World.block_lt_of_cell? _ _ (hHeld.2.2.2.2.1))).trans (hHeld.2.2.2.2.1), (HB10.out.cell (World.block_lt_of_cell? _ _ (hHeld.2.2.2.2.2))).trans (hHeld.2.2.2.2.2)⟩ (fun hHeld => ?_);clear hK K;refine vM 10 ?_;refine qo 6 4 HT_ ?_;refine xS (yK HT_.out (by kernel_rfl)) ?_;go_wp2;go_ret;exact ⟨rfl, HB3.out.trans (HB10.out.mono (qz HB3.out))⟩
/-- What grow finds in what it captured. -/
structure Zw (n : Int) (gn go ga gg : Nat) (all : List S62) (Aa : Option Addr) (ca : Nat) (w : World) (v : Value) : Prop where
 bn : w.heap[gn]? = some (.cells #[.int .i64 n] 3 (0, 0))
 ba : w.heap[ga]? = some (.cells #[.slice Aa all.length ca] 32 (0, 0))
 bg : w.heap[gg]? = some (.cells #[(.func (.func 111) #[] #[.pointer (some ⟨gn, 0, none⟩), .pointer (some ⟨go, 0, none⟩), .pointer (some ⟨ga, 0, none⟩), .pointer (some ⟨gg, 0, none⟩)])] 98 (0, 0))
 ra : LkR go w v Aa all
 hc : all.length ≤ ca
 nv : some ga ≠ v.ownBlock
theorem gr_ne {w w0 : World} {go g t : Nat} {v : Value} {xs : List (List S62)} {cs : Array Value} (hL : Lk w0 go w v xs) (hg : w.heap[g]? = some (.cells cs t (0, 0))) (h1 : t ≠ 32) : some g ≠ v.ownBlock := fun e => by
 obtain ⟨cells, hc⟩ := Kd.Q6 hL.row g e.symm;rw [hg] at hc;injection hc with hc;injection hc with _ ht;exact h1 ht
theorem Zw.to {n : Int} {gn go ga gg : Nat} {all : List S62} {Aa : Option Addr} {ca : Nat} {w w1 w0 : World} {v v1 : Value} {xs : List (List S62)} (h : Zw n gn go ga gg all Aa ca w v) (hL : Lk w0 go w v xs) (k : kE go w v w1 v1) : Zw n gn go ga gg all Aa ca w1 v1 := by
 have hgo := hL.box
 have keep : ∀ (g : Nat) (cs : Array Value) (t : Nat), w.heap[g]? = some (.cells cs t (0, 0)) → t ≠ 25 → some g ≠ v.ownBlock → w1.heap[g]? = some (.cells cs t (0, 0)) := by
  intro g cs t hg ht hv;refine (k.kept.2 g (jI hg) (fun e => ?_)).trans hg;rcases e with e | e
  ·exact blk_ne hg hgo ht e
  ·exact hv e
 refine ⟨keep gn _ _ h.bn (by decide) (gr_ne hL h.bn (by decide)), keep ga _ _ h.ba (by decide) h.nv, keep gg _ _ h.bg (by decide) (gr_ne hL h.bg (by decide)), h.ra.to k, h.hc, fun e => ?_⟩;rcases k.own with k1 | ⟨b, k1, k2⟩
 ·exact h.nv (e.trans k1)
 ·rw [k1] at e;injection e with e;have := jI h.ba;omega
theorem Zw.below {n : Int} {gn go ga gg : Nat} {all : List S62} {Aa : Option Addr} {ca : Nat} {w w1 : World} {v : Value} (h : Zw n gn go ga gg all Aa ca w v) (hb : Below w.heap.size w w1) : Zw n gn go ga gg all Aa ca w1 v :=
 ⟨(hb.block _ (jI h.bn)).trans h.bn, (hb.block _ (jI h.ba)).trans h.ba, (hb.block _ (jI h.bg)).trans h.bg, h.ra.below hb, h.hc, h.nv⟩
/-- A store into a box that is newer than w. -/
theorem kE.set {go gi : Nat} {w w1 : World} {v v1 u : Value} (h : kE go w v w1 v1) (hg : w.heap.size ≤ gi) : kE go w v (w1.setCell ⟨gi, 0, none⟩ u) v1 := ⟨h.kept.setCell (.inr hg) u, h.own⟩
theorem Lk.set {w0 w : World} {go gi : Nat} {v u : Value} {xs : List (List S62)} {cs : Array Value} (h : Lk w0 go w v xs) (hg : w.heap[gi]? = some (.cells cs 3 (0, 0))) (hb : w0.heap.size ≤ gi) : Lk w0 go (w.setCell ⟨gi, 0, none⟩ u) v xs :=
 ⟨Ze h.box (p := ⟨gi, 0, none⟩) (blk_ne h.box hg (by decide)) u, Kd.S_set h.row hg (by decide) 0 u, h.bel.setCell (show w0.heap.size ≤ (⟨gi, 0, none⟩ : Addr).block from hb) u, h.gbe⟩
theorem LkR.setb {w : World} {go gi : Nat} {v u : Value} {A : Option Addr} {l : List S62} (h : LkR go w v A l) (hn : ∀ a, A = some a → l ≠ [] → a.block ≠ gi) : LkR go (w.setCell ⟨gi, 0, none⟩ u) v A l :=
 ⟨lk_move h.c (fun a hne ha _ => Below.heap_setCell w ⟨gi, 0, none⟩ u a.block (hn a ha hne)), h.far⟩
/-- The cells of a list of pairs. -/
def cellsOf (l : List S62) : List Value := l.flatMap fun x => [.int .i64 x.f0, .int .i64 x.f1]
theorem cellsOf_len (l : List S62) : (cellsOf l).length = l.length * 2 := by
 unfold cellsOf
 induction l with
 | nil => rfl
 | cons x r ih =>
  rw [List.flatMap_cons, List.length_append, ih, List.length_cons];simp only [List.length_cons, List.length_nil];omega
theorem cellsOf_reps {W : World} {base : Nat} {ok : Nat → Prop} (l : List S62) : zQ (k62.M W base ok) 2 l (cellsOf l) := by
 induction l with
 | nil => exact zQ.none _ _
 | cons x r ih => exact zQ.c2 (xx _ _ _ x) ih
theorem cellsOf_get (l : List S62) : ∀ (j : Nat) (u : Value), (cellsOf l)[j]? = some u → ∃ x, l[j / 2]? = some x ∧ [Value.int .i64 x.f0, .int .i64 x.f1][j % 2]? = some u := by
 induction l with
 | nil => intro j u h; simp [cellsOf] at h
 | cons x r ih =>
  intro j u h;have e : cellsOf (x :: r) = .int .i64 x.f0 :: .int .i64 x.f1 :: cellsOf r := rfl;rw [e] at h
  match j with
  | 0 => exact ⟨x, rfl, h⟩
  | 1 => exact ⟨x, rfl, h⟩
  | j + 2 =>
   rw [List.getElem?_cons_succ, List.getElem?_cons_succ] at h;obtain ⟨y, h1, h2⟩ := ih j u h;refine ⟨y, ?_, ?_⟩
   ·rw [show (j + 2) / 2 = j / 2 + 1 by omega, List.getElem?_cons_succ];exact h1
   ·rw [show (j + 2) % 2 = j % 2 by omega];exact h2
theorem cut3 (A1 : Option Addr) (m c1 : Nat) (hc : m ≤ c1) (hs : m ≤ 1000) : ∀ W : World, (Instr.slice 32 (.slice A1 m c1) none (some (.int .i64 (m : Int))) (some (.int .i64 (m : Int)))).run Tryz.prog W = .ok (.slice A1 m m) W := by
 intro W;have hu := Tryz.underlying32;go_simp
/-- What is read, as cells in line. -/
theorem cellsOf_at {w : World} {ad : Addr} {l : List S62} (h : Kd.C k62 w (some ad) l.length l) (j : Nat) (u : Value) (hj : (cellsOf l)[j]? = some u) : w.cell? (ad.add j) = some u := by
 obtain ⟨x, h1, h2⟩ := cellsOf_get l j u hj;have hl := (List.getElem?_eq_some_iff.1 h1).1;obtain ⟨ad', e, hc⟩ := h.2.2 (by omega);injection e with e;subst e;obtain ⟨c, hs, hr, hcell⟩ := hc (j / 2) x h1;obtain rfl := ZC hr;have h3 := hcell (j % 2) u h2;rw [show j / 2 * k62.sz + j % 2 = j from by show j / 2 * 2 + j % 2 = j; omega] at h3;exact h3
def GrowIH (n : Int) (N : Nat) : Prop := ∀ (all b : List S62) (fr : Nat) (A1 : Option Addr) (c1 : Nat) (Aa : Option Addr) (ca : Nat) (gn go ga gg : Nat) (v : Value) (xs : List (List S62)) (w0 w : World), all.length - fr < N → fr ≤ all.length → b.length ≤ c1 → b.length + (all.length - fr) ≤ 1000 → all.length ≤ 1000 → xs.length + (xE (n - 3) (all.drop fr) b).length ≤ 1099511627776 → LkR go w v A1 b → Zw n gn go ga gg all Aa ca w v → Lk w0 go w v xs → Calls Tryz.prog 111 (#[.slice A1 b.length c1, .int .i64 (fr : Int)] ++ #[.pointer (some ⟨gn, 0, none⟩), .pointer (some ⟨go, 0, none⟩), .pointer (some ⟨ga, 0, none⟩), .pointer (some ⟨gg, 0, none⟩)]) w (LkPost w0 go w v (xs ++ xE (n - 3) (all.drop fr) b))
theorem grow_yes (n : Int) (hn : 3 ≤ n ∧ n ≤ 8) (all b : List S62) (fr : Nat) (A1 : Option Addr) (c1 : Nat) (Aa : Option Addr) (ca : Nat) (gn go ga gg : Nat) (v : Value) (xs : List (List S62)) (w0 w : World) (hfr : fr ≤ all.length) (hc1 : b.length ≤ c1) (hsum : b.length + (all.length - fr) ≤ 1000) (hall : all.length ≤ 1000) (hmax : xs.length + (xE (n - 3) (all.drop fr) b).length ≤ 1099511627776) (hr2 : LkR go w v A1 b) (hE : Zw n gn go ga gg all Aa ca w v) (hL : Lk w0 go w v xs) (hc : (b.length : Int) = n - 3) :
  Calls Tryz.prog 111 (#[.slice A1 b.length c1, .int .i64 (fr : Int)] ++ #[.pointer (some ⟨gn, 0, none⟩), .pointer (some ⟨go, 0, none⟩), .pointer (some ⟨ga, 0, none⟩), .pointer (some ⟨gg, 0, none⟩)]) w (LkPost w0 go w v (xs ++ xE (n - 3) (all.drop fr) b)) := by
 have hlook : xE (n - 3) (all.drop fr) b = [b] := (by unfold xE; rw [if_pos hc]);rw [hlook] at hmax ⊢;show Calls Tryz.prog 111 #[.slice A1 b.length c1, .int .i64 (fr : Int), .pointer (some ⟨gn, 0, none⟩), .pointer (some ⟨go, 0, none⟩), .pointer (some ⟨ga, 0, none⟩), .pointer (some ⟨gg, 0, none⟩)] w _;have HN := qa.mk hsum;have HM := qa.mk hmax;have HC1 := qa.mk hc1;have hbe : ((b.length : Int) == n - 3) = true := (by simpa using hc);have hn0 : w.cell? ⟨gn, 0, none⟩ = some (.int .i64 n) := (qh hE.bn 0).trans rfl;obtain ⟨n1, n2⟩ := hn;have HL0 := qa.mk hL;have HR0 := qa.mk hr2;clear hr2 hL hlook hc hsum hmax hc1 hE hfr hall;go_enter Tryz.func111, Tryz.ntmps111;go_wp2;have HB0 := qa.mk (uA (Below.refl w.heap.size w));have HL := qa.mk (Lk.below HL0.out HB0.out);have HT := qa.mk (kE.below (kE.refl go w v) HB0.out);have HR2 := qa.mk (LkR.below HR0.out HB0.out);have HX := qa.mk ((qh HL.out.box 0).trans rfl : w.drew.cell? ⟨go, 0, none⟩ = some v);clear HL0 HR0 HB0 hn0;refine wG Tryz.f111 1 6 [5] (fun w' => w'.cell? ⟨go, 0, none⟩ = some v) (HX.out) (fun hHeld HT_ HW_ => ?_);generalize w.drew = wa at HL HT HR2 HX hHeld ⊢;refine qo 1 15 HT_ ?_;refine take_ (i := 0) (N := some 14) (v := ?_) (a' := ?_) #[true, true, false, false, false, false] rfl rfl (JI HT_.out HW_.out (by kernel_rfl)) (fun _ _ _ h => h) (Or.inl ⟨by rfl, ?_⟩) hHeld ?_ ?_;rotate_left
 ·intro w' s0;go_simp;with_reducible rfl
 rotate_left
 ·exact ap_
 refine yJ 2 16 HT_ (fun K hK => ?_);refine uN Tryz.func82 (by kernel_rfl) rfl #[.slice A1 b.length c1] (by rfl) rfl rfl (by (try simp only [List.map_toArray, List.map_cons, List.map_nil]); first | done | rfl) ?_;(with_reducible refine (vP.calls A1 c1 b b _ HR2.out.c HC1.out (by unfold vP.f; rw [if_pos (by have := HN.out; omega)])).mono ?_);rintro e w6 ⟨v6, rfl, ho6, hb6⟩;refine ⟨_, rfl, ?_⟩;obtain ⟨A6, c6, rfl⟩ := Kd.ql ho6;have HO6 := qa.mk ho6;have HB6 := qa.mk hb6;clear ho6 hb6;refine hK.out _ _ ((HB6.out.cell (World.block_lt_of_cell? _ _ HX.out)).trans HX.out) (fun hHeld => ?_);clear hK K;refine vM 16 ?_;refine yJ 3 17 HT_ (fun K hK => ?_);refine value_ (w1 := ?_) (v := ?_) (by rfl) rfl ?_ ?_;rotate_left 2
 ·go_simp;constructor
  ·rfl
  ·rfl
 refine hK.out _ _ (((jL HB6.out _).cell (World.block_lt_of_cell? _ _ HX.out)).trans HX.out) (fun hHeld => ?_);clear hK K;refine vM 17 ?_;refine yJ 4 18 HT_ (fun K hK => ?_);refine Kd.Jc (Kd.slice 62 k62) (w0 := w0) w0.heap.size (by rfl) (.tmp 14) (.tmp 17) 25 32 (.slice none 0 0) 24 rfl Tryz.underlying25 gr_info rfl (by decide) (by omega) v xs b [.slice A6 b.length c6] (fun _ => True) (fun k_ => wa.heap.size ≤ k_) rfl rfl ?zp ?zq ?zf ?zO ?zB ?zS ?zL ?_;(case zp => exact ⟨_, rfl, Kd.qj (Kd.qy (Kd.uP HO6.out) (qz HL.out.bel)) (fun _ hk => hk.2.1)⟩);(case zq => exact fun k_ hk => ⟨trivial, fun he => by have := Kd.S_lt HL.out.row k_ he.symm; omega⟩);(case zf => exact fun _ _ => trivial);(case zO => exact Kd.ku (Kd.wT (Kd.ky HL.out.row) HB6.out) (fun k_ hk => ⟨trivial, Nat.not_le_of_lt hk.2.2.1⟩));(case zB => exact HL.out.bel.trans (HB6.out.mono (qz HL.out.bel)));(case zS => exact Nat.le_trans (qz HL.out.bel) (qz HB6.out));(case zL => have := HM.out; omega);intro v8 w8 ho8 hb8 hg8 hat8;have hput := lk_put (Lk.below HL.out HB6.out) (kE.below HT.out HB6.out) (Lk.below HL.out HB6.out).box ho8 hb8 hg8 hat8;have hx8 := (qh ((hg8.block go (jI (Lk.below HL.out HB6.out).box) (fun e => (Kd.Zx (Kd.S_R (Lk.below HL.out HB6.out).row) (Lk.below HL.out HB6.out).box (by decide)) e)).trans (Lk.below HL.out HB6.out).box) 0).trans rfl;have hf8 := zJ ((hg8.block go (jI (Lk.below HL.out HB6.out).box) (fun e => (Kd.Zx (Kd.S_R (Lk.below HL.out HB6.out).row) (Lk.below HL.out HB6.out).box (by decide)) e)).trans (Lk.below HL.out HB6.out).box) 0;obtain ⟨A8, c8, rfl⟩ := Kd.wN ho8;have HP := qa.mk hput;clear ho8 hb8 hg8 hat8 hput;refine hK.out _ _ (hx8) (fun hHeld => ?_);clear hK K;refine vM 18 ?_;refine last_ (i := 5) (N := none) #[true, true, true, true, true, true] rfl rfl (Zd HT_.out (by kernel_rfl)) (by decide) (fun K hK => ?_);refine skip_ (w1 := ?_) (by rfl) rfl ?_ ?_;rotate_left
 ·go_simp;rfl
 refine hK.out _ _ ?_;clear hK K;refine xS (yK HT_.out (by kernel_rfl)) ?_;go_wp2;refine bodyPost_ret (results_none rfl _ _ _) rfl ?_;have hp := HP.out;simp only [List.length_append, List.length_cons, List.length_nil, Nat.zero_add] at hp;exact ⟨rfl, _, hp.1, hp.2⟩
theorem grow_no (n : Int) (hn : 3 ≤ n ∧ n ≤ 8) (N : Nat) (ih : GrowIH n N) (all b : List S62) (fr : Nat) (A1 : Option Addr) (c1 : Nat) (Aa : Option Addr) (ca : Nat) (gn go ga gg : Nat) (v : Value) (xs : List (List S62)) (w0 w : World) (hN : all.length - fr < N + 1) (hfr : fr ≤ all.length) (hc1 : b.length ≤ c1) (hsum : b.length + (all.length - fr) ≤ 1000) (hall : all.length ≤ 1000) (hmax : xs.length + (xE (n - 3) (all.drop fr) b).length ≤ 1099511627776) (hr2 : LkR go w v A1 b) (hE : Zw n gn go ga gg all Aa ca w v) (hL : Lk w0 go w v xs) (hc : ¬ (b.length : Int) = n - 3) :
  Calls Tryz.prog 111 (#[.slice A1 b.length c1, .int .i64 (fr : Int)] ++ #[.pointer (some ⟨gn, 0, none⟩), .pointer (some ⟨go, 0, none⟩), .pointer (some ⟨ga, 0, none⟩), .pointer (some ⟨gg, 0, none⟩)]) w (LkPost w0 go w v (xs ++ xE (n - 3) (all.drop fr) b)) := by
 have hlook : xE (n - 3) (all.drop fr) b = uZ (n - 3) (all.drop fr) b := (by unfold xE; rw [if_neg hc]);rw [hlook] at hmax ⊢;show Calls Tryz.prog 111 #[.slice A1 b.length c1, .int .i64 (fr : Int), .pointer (some ⟨gn, 0, none⟩), .pointer (some ⟨go, 0, none⟩), .pointer (some ⟨ga, 0, none⟩), .pointer (some ⟨gg, 0, none⟩)] w _;have HN := qa.mk hsum;have HM0 := qa.mk hmax;have HN2 := qa.mk hN;have HC1 := qa.mk hc1;have hbe : ((b.length : Int) == n - 3) = false := (by simpa using hc);have hn0 : w.cell? ⟨gn, 0, none⟩ = some (.int .i64 n) := (qh hE.bn 0).trans rfl;have hsmall2 : b.length ≤ 1000 := (by omega);obtain ⟨n1, n2⟩ := hn;have HL0 := qa.mk hL;have HR0 := qa.mk hr2;have HE0 := qa.mk hE;have IH := qa.mk ih;clear hr2 hL hlook hc hsum hmax hc1 hE hN ih;go_enter Tryz.func111, Tryz.ntmps111;go_wp2_with ((with_reducible refine gd_ 8 ?_); refine jO 8 #[.int .i64 0] 3 ?_; intro gi hg w9 hbox hb; have HX9 := qa.mk hbox; have HG9 := qa.mk hg; have HB9 := qa.mk hb; clear hbox hb hg; obtain ⟨hcz_0, hfz_0⟩ := bx1_ HX9);generalize hwx : w9.setCell ⟨gi, 0, none⟩ (.int .i64 (fr : Int)) = wx;have hbi : wx.heap[gi]? = some (.cells #[.int .i64 (fr : Int)] 3 (0, 0)) := (by rw [← hwx]; exact wE (cs := #[.int .i64 0]) HX9.out 0 _ rfl);have hbx : Below w.heap.size w wx := (by rw [← hwx]; exact zD HB9.out (Nat.le_of_eq HG9.out.symm));have HGI := qa.mk (Nat.le_of_eq HG9.out.symm : w.heap.size ≤ gi);have HBI := qa.mk hbi;have HBX := qa.mk hbx;clear hwx hbi hbx hcz_0 hfz_0 HX9 HG9 HB9 hn0;go_loopg [8] (all.length + 1) (fun gg' s8 wr => ∃ (gi i : Nat) (v' : Value) (ys : List (List S62)), s8 = .pointer (some ⟨gi, 0, none⟩) ∧ i ≤ all.length ∧ qa (all.length + 1 ≤ gg' + i) ∧ fr ≤ i ∧ qa (wr.heap[gi]? = some (.cells #[.int .i64 i] 3 (0, 0))) ∧ qa (w.heap.size ≤ gi) ∧ qa (ys ++ uZ (n - 3) (all.drop i) b = xs ++ uZ (n - 3) (all.drop fr) b) ∧ qa (Lk w0 go wr v' ys) ∧ qa (kE go w v wr v'));(case atStart => exact ⟨gi, fr, v, xs, rfl, hfr, ⟨by omega⟩, Nat.le_refl _, HBI, HGI, ⟨rfl⟩, ⟨HL0.out.below HBX.out⟩, ⟨(kE.refl go w v).below HBX.out⟩⟩);case round =>
  clear HBI HGI HBX;obtain ⟨gi, i, v1, ys, rfl, hi, HG, hfi, HBI, HGI, HEQ, HL1, HT1⟩ := hrel;have HE1 := qa.mk (HE0.out.to HL0.out HT1.out);have HRB := qa.mk (HR0.out.to HT1.out);have hgi : wr.cell? ⟨gi, 0, none⟩ = some (.int .i64 i) := (qh HBI.out 0).trans rfl;have hga : wr.cell? ⟨ga, 0, none⟩ = some (.slice Aa all.length ca) := (qh HE1.out.ba 0).trans rfl;by_cases hlt : i < all.length
  ·have q0 : (i : Int) < (all.length : Int) := (by omega);have p0 : (0 : Int) ≤ (i : Int) := (by omega);obtain ⟨d, hd⟩ : ∃ d, qb all (i : Int) = d := ⟨_, rfl⟩;have HS := qa.mk (lookL_step (n - 3) all b i hlt);rw [hd] at HS;have HCF := qa.mk (ContainsFuncM62 (xe d) 112 #[.pointer (some ⟨ga, 0, none⟩), .pointer (some ⟨gi, 0, none⟩)] (enters_of Tryz.func112 (by kernel_rfl) rfl) A1 c1 b wr HRB.out.c (fun W e _ hW => growLit_calls e d ga gi Aa ca all i hlt hd W ((hW.block _ (jI HE1.out.ba)).trans HE1.out.ba) ((hW.block _ (jI HBI.out)).trans HBI.out) (Kd.zF HE1.out.ra.c hW)));cases hany : b.any (xe d) with
   | true =>
    have HEQ2 := qa.mk (show ys ++ uZ (n - 3) (all.drop (i + 1)) b = xs ++ uZ (n - 3) (all.drop fr) b by rw [← HEQ.out, HS.out, if_pos hany, List.nil_append]);rw [hany] at HCF;clear HEQ HS hany;go_wp2_with (first
     | (go_at_call 63; refine HCF.out.mono ?_; rintro e w5 ⟨rfl, hb5⟩; have HL3 := qa.mk (HL1.out.below hb5); have HT3 := qa.mk (HT1.out.below hb5); have hgi3 : w5.cell? ⟨gi, 0, none⟩ = some (.int .i64 i) := (hb5.cell (World.block_lt_of_cell? _ _ hgi)).trans hgi; clear hb5)
     | ((with_reducible refine gd_ 8 ?_); refine jO 8 #[.int .i64 0] 3 ?_; intro gk hgk w11 hbox hb; have HX11 := qa.mk hbox; have HG11 := qa.mk hgk; have HB11 := qa.mk hb; clear hbox hb hgk; obtain ⟨hcz_0, hfz_0⟩ := bx1_ HX11))
    go_roundg (all.length - i);(case measure => have := HG.out; omega);case rel =>
     have hgk : w.heap.size ≤ gk := (by rw [HG11.out]; exact HT3.out.kept.1);have hgk0 : w0.heap.size ≤ gk := Nat.le_trans (qz HL0.out.bel) hgk;have l1 := Lk.below HL3.out HB11.out;have l2 := Lk.set (u := .int .i64 i) l1 HX11.out hgk0;have b2 := wE (cs := #[.int .i64 0]) HX11.out 0 (.int .i64 i) rfl;have l3 := Lk.set (u := .int .i64 ((i + 1 : Nat) : Int)) l2 b2 hgk0;have b3 := wE (cs := #[.int .i64 i]) b2 0 (.int .i64 ((i + 1 : Nat) : Int)) rfl;have t3 := ((HT3.out.below HB11.out).set (u := .int .i64 i) hgk).set (u := .int .i64 ((i + 1 : Nat) : Int)) hgk;refine ⟨gk, i + 1, v1, ys, rfl, by omega, ⟨by omega⟩, by omega, ⟨?_⟩, ⟨hgk⟩, HEQ2, ⟨?_⟩, ⟨?_⟩⟩
     ·first | exact b3 | simpa using b3
     ·first | exact l3 | simpa using l3
     ·first | exact t3 | simpa using t3
   | false =>
    have HEQ2 := qa.mk (show (ys ++ xE (n - 3) (all.drop (i + 1)) (b ++ [d])) ++ uZ (n - 3) (all.drop (i + 1)) b = xs ++ uZ (n - 3) (all.drop fr) b by rw [← HEQ.out, HS.out, hany, if_neg (by simp), List.append_assoc])
    have HM := qa.mk (show ys.length + (xE (n - 3) (all.drop (i + 1)) (b ++ [d])).length ≤ 1099511627776 by
     have h1 := congrArg List.length HEQ2.out;have h2 := HM0.out;simp only [List.length_append] at h1;omega)
    have HW1 := qa.mk (show wrap64 ((i : Int) + 1) = ((i + 1 : Nat) : Int) by unfold wrap64; omega);rw [hany] at HCF;clear HEQ HS hany;go_wp2_with (go_at_call 63; refine HCF.out.mono ?_; rintro e w5 ⟨rfl, hb5⟩; have HL2 := qa.mk (HL1.out.below hb5); have HT2 := qa.mk (HT1.out.below hb5); have HE2 := qa.mk (HE1.out.below hb5); have HR3 := qa.mk (HRB.out.below hb5); have HBI2 := qa.mk ((hb5.block _ (jI HBI.out)).trans HBI.out); clear hb5);have HB0 := qa.mk (uA (Below.refl w5.heap.size w5));have HL := qa.mk (Lk.below HL2.out HB0.out);have HT := qa.mk (HT2.out.below HB0.out);have HR2 := qa.mk (HR3.out.below HB0.out);have HE := qa.mk (HE2.out.below HB0.out);clear HBI hgi hga;have HBI := qa.mk ((HB0.out.block _ (jI HBI2.out)).trans HBI2.out);obtain ⟨ad, rfl, h6_3, h6_4⟩ := at_T62 HE.out.ra.c (i : Int) p0 q0;simp only [Int.toNat_natCast] at h6_3 h6_4;rw [hd] at h6_3 h6_4;have h6_0 := (qh HE.out.bg 0).trans rfl;have h6_1 := (qh HE.out.ba 0).trans rfl;have h6_2 := (qh HBI.out 0).trans rfl;have hcut : ∀ W : World, (Instr.slice 32 (.slice A1 b.length c1) none (some (.int .i64 (b.length : Int))) (some (.int .i64 (b.length : Int)))).run Tryz.prog W = .ok (.slice A1 b.length b.length) W := cut3 A1 b.length c1 HC1.out hsmall2;replace p0 := eq_true p0;replace q0 := eq_true q0;clear HL2 HT2 HR3 HE2 HB0 HBI2 HCF;refine wG Tryz.f111 6 16 [15] (fun w' => w'.cell? ⟨gg, 0, none⟩ = some (.func (.func 111) #[] #[.pointer (some ⟨gn, 0, none⟩), .pointer (some ⟨go, 0, none⟩), .pointer (some ⟨ga, 0, none⟩), .pointer (some ⟨gg, 0, none⟩)]) ∧ w'.cell? ⟨ga, 0, none⟩ = some (.slice (some ad) all.length ca) ∧ w'.cell? ⟨gi, 0, none⟩ = some (.int .i64 i) ∧ w'.cell? (ad.add (i * 2)) = some (.int .i64 d.f0) ∧ w'.cell? ⟨(ad.add (i * 2)).block, (ad.add (i * 2)).off + 1, none⟩ = some (.int .i64 d.f1)) ⟨h6_0, h6_1, h6_2, h6_3, h6_4⟩ (fun hHeld HT_ HW_ => ?_);generalize w5.drew = wa at HL HT HR2 HE HBI hHeld ⊢;refine qo 1 31 HT_ ?_;refine qo 2 32 HT_ ?_;refine qo 3 33 HT_ ?_;refine qo 4 34 HT_ ?_;refine qo 5 35 HT_ ?_;refine qo 6 36 HT_ ?_;refine xF 0 30 HT_ HW_ hHeld ?_;refine xF 7 37 HT_ HW_ hHeld ?_;refine xF 8 38 HT_ HW_ hHeld ?_;refine qo 9 39 HT_ ?_;refine xF 10 40 HT_ HW_ hHeld ?_;refine xF 13 43 HT_ HW_ hHeld ?_;refine qo 14 44 HT_ ?_;refine yJ 11 41 HT_ (fun K hK => ?_);have HS6 := qa.mk hHeld;refine Kd.vL k62 (w0 := wa) wa.heap.size 62 ?hg (N := 41) ?hd (xs := ([d] : List S62)) (inner := [.int .i64 d.f0, .int .i64 d.f1]) (ok := fun _ => True) (okp := fun _ => True) ?hr ?hp (fun _ hk => hk) trivial (Below.refl _ _) (Nat.le_refl _) (by simp) ?_; (case hd => rfl); (case hg => rfl); (case hr => first | (go_simp; done) | (go_simp; rfl)); (case hp => exact (zQ.c2 (show Kd.M k62 _ _ _ d [.int .i64 d.f0, .int .i64 d.f1] from (xx _ _ _ d)) (zQ.none _ _)));intro v41 w41 aa hb41 hg41_ hn41_;clear hg41_ hn41_;obtain ⟨A41, c41, rfl⟩ := Kd.ql aa;obtain ⟨ae, e41_, hc41_⟩ := (Kd.qc aa).2.2.2.2 (by simp);subst e41_;have af := qa.mk (hc41_ 0 d rfl);have HB41 := qa.mk hb41;clear aa hb41 hc41_;refine hK.out _ _ ⟨(HB41.out.cell (World.block_lt_of_cell? _ _ (HS6.out.1))).trans (HS6.out.1), (HB41.out.cell (World.block_lt_of_cell? _ _ (HS6.out.2.1))).trans (HS6.out.2.1), (HB41.out.cell (World.block_lt_of_cell? _ _ (HS6.out.2.2.1))).trans (HS6.out.2.2.1), (HB41.out.cell (World.block_lt_of_cell? _ _ (HS6.out.2.2.2.1))).trans (HS6.out.2.2.2.1), (HB41.out.cell (World.block_lt_of_cell? _ _ (HS6.out.2.2.2.2))).trans (HS6.out.2.2.2.2)⟩ (fun hHeld => ?_);clear hK K;refine vM 41 ?_;refine yJ 12 42 HT_ (fun K hK => ?_);obtain ⟨i0_, hi0_, hz1_, hz2_, hz3_⟩ := info_parts vO;obtain ⟨c41_, hcl_, hck_, hcc_⟩ := af.out;obtain rfl := ZC hck_;refine step_append_grows rfl (.tmp 36) (.tmp 41) 32 rfl 62 i0_ (.agg #[(.int .i64 0), (.int .i64 0)]) 2 16 Tryz.underlying32 hi0_ hz1_ hz2_ hz3_ rfl (by decide) A1 b.length b.length (cellsOf b) rfl ?yn (cellsOf_len b) ?yo ae 1 c41 [.int .i64 d.f0, .int .i64 d.f1] rfl (by rfl) ?yc ?y1 (by omega) (by unfold maxLen; omega) (by omega) ?_;(case yn => exact fun e_ => by have h_ := HR2.out.c; rw [e_] at h_; refine (fun h0_ => ⟨h0_, h0_⟩ : b.length = 0 → b.length = 0 ∧ b.length = 0) ?_; rcases Nat.eq_zero_or_pos b.length with h1_ | h1_; exact h1_; obtain ⟨x_, hx_, _⟩ := h_.2.2 h1_; cases hx_);(case yo => exact fun b_ e_ j_ u_ hj_ => by have h_ := Kd.zF HR2.out.c HB41.out; rw [e_] at h_; exact cellsOf_at h_ j_ u_ hj_);(case yc => exact fun j_ u_ hj_ => by have h_ := hcc_ j_ u_ hj_; rw [Nat.zero_mul, Nat.zero_add] at h_; exact h_);(case y1 => exact fun u_ hu_ => k62.K_one (k62_mk w41 d) u_ hu_);intro v42 w42 hown42 hg42;have ab : Kd.R k62 62 w42 wa.heap.size (fun _ => True) v42 (b ++ [d]) := ⟨fun _ _ => trivial, _, own_weaken (by rw [List.length_append, List.length_singleton]; exact hown42) (qz HB41.out), by have h_ := cellsOf_reps (W := w42) (base := wa.heap.size) (ok := fun k_ => True ∧ some k_ ≠ v42.ownBlock) (b ++ [d]); unfold cellsOf at h_; rw [List.flatMap_append] at h_; exact h_⟩;have hb42 : Below wa.heap.size wa w42 := HB41.out.grown hg42 (qz HB41.out) (fun _ h_ => by cases h_);obtain ⟨A42, c42, rfl⟩ := Kd.ql ab;have ac := qa.mk ab;have HB42 := qa.mk hb42;clear ab hb42 hown42 hg42 hi0_ hz1_ hz2_ hz3_ hcl_ hck_ hcc_;refine hK.out _ _ ⟨(HB42.out.cell (World.block_lt_of_cell? _ _ (HS6.out.1))).trans (HS6.out.1), (HB42.out.cell (World.block_lt_of_cell? _ _ (HS6.out.2.1))).trans (HS6.out.2.1), (HB42.out.cell (World.block_lt_of_cell? _ _ (HS6.out.2.2.1))).trans (HS6.out.2.2.1), (HB42.out.cell (World.block_lt_of_cell? _ _ (HS6.out.2.2.2.1))).trans (HS6.out.2.2.2.1), (HB42.out.cell (World.block_lt_of_cell? _ _ (HS6.out.2.2.2.2))).trans (HS6.out.2.2.2.2)⟩ (fun hHeld => ?_);clear hK K;refine vM 42 ?_;refine last_ (i := 15) (N := some 45) #[true, true, true, true, true, true, true, true, true, true, true, true, true, true, true, true] rfl rfl (Zd HT_.out (by kernel_rfl)) (by decide) (fun K hK => ?_);have hcall := IH.out all (b ++ [d]) (i + 1) A42 c42 (some ad) ca gn go ga gg v1 ys w0 w42 (by have := HN2.out; omega) (by omega) (Kd.qc ac.out).2.1 (by rw [List.length_append, List.length_singleton]; have := HN.out; omega) hall HM.out (LkR.new HL.out ac.out) (HE.out.below HB42.out) (Lk.below HL.out HB42.out);have HCALL := qa.mk hcall;clear hcall;refine Jk Tryz.func111 (by kernel_rfl) rfl #[.slice A42 (b ++ [d]).length c42, .int .i64 (wrap64 ((i : Int) + 1)), .pointer (some ⟨gn, 0, none⟩), .pointer (some ⟨go, 0, none⟩), .pointer (some ⟨ga, 0, none⟩), .pointer (some ⟨gg, 0, none⟩)] (by rfl) rfl rfl (by rfl) (by (try simp only [List.map_toArray, List.map_cons, List.map_nil]); first | done | rfl | (simp only [List.length_append, List.length_cons, List.length_nil, Nat.zero_add]; rfl)) ?_;rw [HW1.out];refine HCALL.out.mono ?_;rintro e w62 ⟨rfl, v62, hl62, ht62⟩;refine ⟨_, rfl, ?_⟩;have HL3 := qa.mk hl62;have HT3 := qa.mk ((HT.out.below HB42.out).trans ht62);have hgi3 : w62.cell? ⟨gi, 0, none⟩ = some (.int .i64 i) := (qh ((ht62.kept.2 gi (by rw [show (w42.heap.size) = w42.heap.size from rfl]; exact jI ((HB42.out.block gi (jI HBI.out)).trans HBI.out)) (fun e_ => e_.elim (fun e2_ => blk_ne ((HB42.out.block gi (jI HBI.out)).trans HBI.out) (Lk.below HL.out HB42.out).box (by decide) e2_) (fun e2_ => gr_ne (Lk.below HL.out HB42.out) ((HB42.out.block gi (jI HBI.out)).trans HBI.out) (by decide) e2_))).trans ((HB42.out.block gi (jI HBI.out)).trans HBI.out)) 0).trans rfl;clear hl62 ht62 HCALL;refine hK.out _ _ ?_;clear hK K;refine vM 45 ?_;refine xS (yK HT_.out (by kernel_rfl)) ?_;go_wp2_with ((with_reducible refine gd_ 8 ?_); refine jO 8 #[.int .i64 0] 3 ?_; intro gk hgk w11 hbox hb; have HX11 := qa.mk hbox; have HG11 := qa.mk hgk; have HB11 := qa.mk hb; clear hbox hb hgk; obtain ⟨hcz_0, hfz_0⟩ := bx1_ HX11);go_roundg (all.length - i);(case measure => have := HG.out; omega);case rel =>
     have hgk : w.heap.size ≤ gk := (by rw [HG11.out]; exact HT3.out.kept.1);have hgk0 : w0.heap.size ≤ gk := Nat.le_trans (qz HL0.out.bel) hgk;have l1 := Lk.below HL3.out HB11.out;have l2 := Lk.set (u := .int .i64 i) l1 HX11.out hgk0;have b2 := wE (cs := #[.int .i64 0]) HX11.out 0 (.int .i64 i) rfl;have l3 := Lk.set (u := .int .i64 ((i + 1 : Nat) : Int)) l2 b2 hgk0;have b3 := wE (cs := #[.int .i64 i]) b2 0 (.int .i64 ((i + 1 : Nat) : Int)) rfl;have t3 := ((HT3.out.below HB11.out).set (u := .int .i64 i) hgk).set (u := .int .i64 ((i + 1 : Nat) : Int)) hgk;refine ⟨gk, i + 1, v62, ys ++ xE (n - 3) (all.drop (i + 1)) (b ++ [d]), rfl, by omega, ⟨by omega⟩, by omega, ⟨?_⟩, ⟨hgk⟩, HEQ2, ⟨?_⟩, ⟨?_⟩⟩
     ·first | exact b3 | simpa using b3
     ·first | exact l3 | simpa using l3
     ·first | exact t3 | simpa using t3
  ·have hltz : ¬ (i : Int) < (all.length : Int) := (by omega);go_wp2;refine bodyPost_ret (results_none rfl _ _ _) rfl ?_;have he := HEQ.out;rw [List.drop_of_length_le (show all.length ≤ i by omega), show uZ (n - 3) [] b = [] from rfl, List.append_nil] at he;exact ⟨rfl, v1, by rw [← he]; exact HL1.out, HT1.out⟩

theorem grow_calls (n : Int) (hn : 3 ≤ n ∧ n ≤ 8) : ∀ N : Nat, GrowIH n N := by
 intro N
 induction N with
 | zero =>
  intro all b fr A1 c1 Aa ca gn go ga gg v xs w0 w hN;omega
 | succ N ih =>
  intro all b fr A1 c1 Aa ca gn go ga gg v xs w0 w hN hfr hc1 hsum hall hmax hr2 hE hL;by_cases hc : (b.length : Int) = n - 3
  ·exact grow_yes n hn all b fr A1 c1 Aa ca gn go ga gg v xs w0 w hfr hc1 hsum hall hmax hr2 hE hL hc
  ·exact grow_no n hn N ih all b fr A1 c1 Aa ca gn go ga gg v xs w0 w hN hfr hc1 hsum hall hmax hr2 hE hL hc

def z8.f (k : Nat) (a0 : Int) : Option (List (List S62)) := (qU.f k a0).bind fun ds => if 3 ≤ a0 ∧ a0 ≤ 8 ∧ ds.length ≤ 20 then some (xE (a0 - 3) ds []) else none
theorem allT_start (a0 : Int) (gn go ga : Nat) (A6 A8 : Option Addr) (c6 c8 : Nat) (t : List S62) (w w5 : World) (hn : w5.heap[gn]? = some (.cells #[.int .i64 a0] 3 (0, 0))) (ho : w5.heap[go]? = some (.cells #[.slice none 0 0] 25 (0, 0))) (ha : w5.heap[ga]? = some (.cells #[.slice none 0 0] 32 (0, 0)))
  (hS : Kd.S (Kd.slice 62 k62) 32 w5 w.heap.size (fun k => k ≠ ga) (.slice A6 0 c6) []) (hD : Kd.R k62 62 w5 w.heap.size (fun _ => True) (.slice A8 t.length c8) t) (hB : Below w.heap.size w w5) (h1 : w.heap.size ≤ go) (h2 : w.heap.size ≤ ga) (hne : go ≠ ga) (hV : some ga ≠ (Value.slice A6 0 c6).ownBlock) :
  Lk w go (((w5.setCell ⟨go, 0, none⟩ (.slice A6 0 c6)).setCell ⟨ga, 0, none⟩ (.slice A8 t.length c8)).alloc (.cells #[.func (.func 111) #[] #[.pointer (some ⟨gn, 0, none⟩), .pointer (some ⟨go, 0, none⟩), .pointer (some ⟨ga, 0, none⟩), .pointer (some ⟨w5.heap.size, 0, none⟩)]] 98)) (.slice A6 0 c6) [] ∧
  Zw a0 gn go ga w5.heap.size t A8 c8 (((w5.setCell ⟨go, 0, none⟩ (.slice A6 0 c6)).setCell ⟨ga, 0, none⟩ (.slice A8 t.length c8)).alloc (.cells #[.func (.func 111) #[] #[.pointer (some ⟨gn, 0, none⟩), .pointer (some ⟨go, 0, none⟩), .pointer (some ⟨ga, 0, none⟩), .pointer (some ⟨w5.heap.size, 0, none⟩)]] 98)) (.slice A6 0 c6) := by
 have o1 := wE (cs := #[.slice none 0 0]) ho 0 (.slice A6 0 c6) rfl;have a1 := Ze ha (p := ⟨go, 0, none⟩) (Ne.symm hne) (.slice A6 0 c6);have n1 := Ze hn (p := ⟨go, 0, none⟩) (blk_ne hn ho (by decide)) (.slice A6 0 c6);have o2 := Ze o1 (p := ⟨ga, 0, none⟩) hne (.slice A8 t.length c8);have a2 := wE (cs := #[.slice none 0 0]) a1 0 (.slice A8 t.length c8) rfl;have n2 := Ze n1 (p := ⟨ga, 0, none⟩) (blk_ne hn ha (by decide)) (.slice A8 t.length c8);have s1 := Kd.S_set hS ho (by decide) 0 (.slice A6 0 c6);have s2 := Kd.S_far s1 (p := ⟨ga, 0, none⟩) (fun k hk => hk) (.slice A8 t.length c8);have d1 := Kd.R_set hD ho (by decide) 0 (.slice A6 0 c6);have d2 := Kd.R_set d1 a1 (by decide) 0 (.slice A8 t.length c8);have b1 := zD (j := 0) (v := .slice A6 0 c6) hB h1;have b2 := zD (j := 0) (v := .slice A8 t.length c8) b1 h2;refine ⟨⟨uL o2 _, Kd.ku (Kd.S_alloc s2 _) (fun _ _ => trivial), jL b2 _, h1⟩, ⟨uL n2 _, uL a2 _, ?_, ⟨(Kd.qc (Kd.wF d2 _)).2.2, ?_⟩, (Kd.qc hD).2.1, hV⟩⟩
 ·have h := blk_new ((w5.setCell ⟨go, 0, none⟩ (.slice A6 0 c6)).setCell ⟨ga, 0, none⟩ (.slice A8 t.length c8)) (.cells #[.func (.func 111) #[] #[.pointer (some ⟨gn, 0, none⟩), .pointer (some ⟨go, 0, none⟩), .pointer (some ⟨ga, 0, none⟩), .pointer (some ⟨w5.heap.size, 0, none⟩)]] 98);have e : ((w5.setCell ⟨go, 0, none⟩ (.slice A6 0 c6)).setCell ⟨ga, 0, none⟩ (.slice A8 t.length c8)).heap.size = w5.heap.size := (by simp [World.setCell]);rw [e] at h;exact h
 ·intro a ea _;subst ea;obtain ⟨g, rfl⟩ := Kd.R_head hD;obtain ⟨cells, hc⟩ := Kd.yS hD g rfl;refine ⟨fun e => ?_, fun e => ?_⟩
  ·have e : g = go := e;exact blk_ne hc ho (by decide) e
  ·obtain ⟨cells2, hc2⟩ := Kd.Q6 hS g e.symm;rw [hc] at hc2;injection hc2 with hc2;injection hc2 with _ ht;exact absurd ht (by decide)
theorem z8.calls (k : Nat) (a0 : Int) (r : List (List S62)) (w : World) (h : z8.f k a0 = some r) :
  Calls Tryz.prog 79 #[.int .i64 a0] w fun e w' => ∃ v0_ : Value, e = .returned (v0_) ∧ Kd.S (Kd.slice 62 k62) 32 w' w.heap.size (fun _ => True) v0_ r ∧ Below w.heap.size w w' := by
 have H := h;unfold z8.f at H;clear h;obtain ⟨t, ht, H⟩ := Option.bind_eq_some_iff.mp H;by_cases hn : 3 ≤ a0 ∧ a0 ≤ 8 ∧ t.length ≤ 20
 ·rw [if_pos hn] at H;obtain rfl := Option.some.inj H;clear H
  have hle : (xE (a0 - 3) t []).length ≤ 1048576 := by
   have h2 := JH (a0 - 3) t [];have h3 : 2 ^ t.length ≤ 2 ^ 20 := Nat.pow_le_pow_right (by omega) hn.2.2;have h4 : (2 : Nat) ^ 20 = 1048576 := (by decide);unfold xE;split
   ·simp
   ·omega
  have hkey : ∀ (gn go ga gg : Nat) (Aa : Option Addr) (ca : Nat) (v : Value) (W : World), Lk w go W v [] → Zw a0 gn go ga gg t Aa ca W v →
    Calls Tryz.prog 111 #[.slice none 0 0, .int .i64 0, .pointer (some ⟨gn, 0, none⟩), .pointer (some ⟨go, 0, none⟩), .pointer (some ⟨ga, 0, none⟩), .pointer (some ⟨gg, 0, none⟩)] W fun e w7 => e = .returned (.tuple #[]) ∧ ∃ v', Lk w go w7 v' (xE (a0 - 3) t []) := by
   intro gn go ga gg Aa ca v W hL hE;have h1 := grow_calls a0 ⟨hn.1, hn.2.1⟩ (t.length + 1) t [] 0 none 0 Aa ca gn go ga gg v [] w W (by omega) (Nat.zero_le _) (by simp) (by have := hn.2.2; simp; omega) (by omega) (by rw [List.drop_zero]; simp; omega) ⟨Kd.C_nil _ _, fun a ha => by cases ha⟩ hE hL;rw [List.drop_zero] at h1;refine Calls.mono h1 ?_;rintro e w7 ⟨rfl, v', hl, _⟩;exact ⟨rfl, v', hl⟩
  have HK := qa.mk hkey;have HT := qa.mk ht;have HB0 := qa.mk (Below.refl w.heap.size w);have HLE := qa.mk hn.2.2;clear hkey ht hle hn;go_enter Tryz.func79, Tryz.ntmps79;go_wp2_with (first
   | ((with_reducible refine gd_ 1 ?_); refine jO 1 #[.int .i64 a0] 3 ?_; intro gn hg w1 hbox hb; have HN1 := qa.mk hbox; have HB1 := qa.mk hb; have hc1 : w1.cell? ⟨gn, 0, none⟩ = some (.int .i64 a0) := (qh HN1.out 0).trans rfl; clear hbox hb hg HB0)
   | ((with_reducible refine gd_ 6 ?_); refine Kd.J5 (Kd.tag (fun _ => 0) (Kd.slice 62 k62)) (w0 := w1) w1.heap.size 32 ?hg (N := 6) ?hd (xs := ([] : List (List S62 × Nat))) (inner := []) (ok := fun _ => True) (okp := fun _ => True) ?hr ?hp (fun _ hk => hk) trivial (Below.refl _ _) (Nat.le_refl _) (by simp) ?_; (case hd => rfl); (case hg => rfl); (case hr => first | (go_simp; done) | (go_simp; rfl)); (case hp => exact (zQ.none _ _)); intro v6 w2 ho2 hb2 hg_ hnew_; clear hg_ hnew_; have HO2 := qa.mk (show Kd.S (Kd.slice 62 k62) 32 w2 w.heap.size (fun _ => True) v6 [] from Kd.kN ⟨fun _ => 0, ho2⟩ (qz HB1.out)); have HB2 := qa.mk (y7 HB1.out (qz HB1.out) hb2); have HN2 := qa.mk ((hb2.block _ (jI HN1.out)).trans HN1.out); have hc2 : w2.cell? ⟨gn, 0, none⟩ = some (.int .i64 a0) := (qh HN2.out 0).trans rfl; clear ho2 hb2)
   | (go_at_call 110; refine (qU.calls k a0 t _ HT.out).mono ?_; rintro e w3 ⟨v8, rfl, ho3, hb3⟩; obtain ⟨A8, c8, rfl⟩ := Kd.ql ho3; have HD3 := qa.mk (Kd.qy ho3 (qz HB2.out)); have HO3 := qa.mk (Kd.wT HO2.out hb3); have HB3 := qa.mk (y7 HB2.out (qz HB2.out) hb3); have HN3 := qa.mk ((hb3.block _ (jI HN2.out)).trans HN2.out); clear ho3 hb3)
   | ((with_reducible refine gd_ 3 ?_); refine jO 3 #[.slice none 0 0] 25 ?_; intro go hgo w4 hbox hb4; have HX4 := qa.mk hbox; have HGO := qa.mk (show w.heap.size ≤ go by rw [hgo]; exact qz HB3.out); have HD4 := qa.mk (Kd.xk HD3.out hb4); have HO4 := qa.mk (Kd.wT HO3.out hb4); have HB4 := qa.mk (y7 HB3.out (qz HB3.out) hb4); have HN4 := qa.mk ((hb4.block _ (jI HN3.out)).trans HN3.out); clear hbox hb4 hgo)
   | ((with_reducible refine gd_ 4 ?_); refine jO 4 #[.slice none 0 0] 32 ?_; intro ga hga w5 hbox hb5; have HX5 := qa.mk hbox; have HG5 := qa.mk (show w.heap.size ≤ ga by rw [hga]; exact qz HB4.out); have HD5 := qa.mk (Kd.xk HD4.out hb5); have HO5 := qa.mk (Kd.ku (ok' := fun k_ => k_ ≠ ga) (Kd.wT (Kd.ky HO4.out) hb5) (fun k_ hk_ e_ => by have := hk_.2.2.1; omega)); have HV5 := qa.mk (show some ga ≠ v6.ownBlock from fun e_ => by have := Kd.S_lt HO4.out ga e_.symm; omega); have HB5 := qa.mk (y7 HB4.out (qz HB4.out) hb5); have HN5 := qa.mk ((hb5.block _ (jI HN4.out)).trans HN4.out); have HXO := qa.mk ((hb5.block _ (jI HX4.out)).trans HX4.out); have hco : w5.cell? ⟨go, 0, none⟩ = some (.slice none 0 0) := (qh HXO.out 0).trans rfl; have hfo := zJ HXO.out 0; have hca : w5.cell? ⟨ga, 0, none⟩ = some (.slice none 0 0) := (qh HX5.out 0).trans rfl; have hfa := zJ HX5.out 0; have hne1 : go ≠ ga := (fun e_ => by have := jI HX4.out; omega); have hne2 : ga ≠ go := Ne.symm hne1; clear hbox hb5 hga; obtain ⟨A6, c6, rfl⟩ := Kd.wN HO5.out))
  have hst := allT_start a0 gn go ga A6 A8 c6 c8 t w w5 HN5.out HXO.out HX5.out HO5.out HD5.out HB5.out HGO.out HG5.out hne1 HV5.out;have HCALL := qa.mk (HK.out gn go ga w5.heap.size A8 c8 (.slice A6 0 c6) _ hst.1 hst.2);clear hst;refine HCALL.out.mono ?_;clear HCALL;rintro e w7 ⟨rfl, v7, hl7⟩;have hx7 : w7.cell? ⟨go, 0, none⟩ = some v7 := (qh hl7.box 0).trans rfl;have HL7 := qa.mk hl7;clear hl7 hco hfo hca hfa;go_wp2;go_ret;exact ⟨v7, rfl, HL7.out.row, HL7.out.bel⟩
 ·rw [if_neg hn] at H;cases H

end Go.Proofs.YtgblginphicacaaGreat.PFnClassesTold
