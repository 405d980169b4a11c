-- WRITTEN BY A PROGRAM OF THIS WORK (wip/tools/ppatch.py) for this claim.
import Derived.Shelf.SlSortCmp.NoneTotal
import Derived.Ground.SlsfProg
import Derived.Test.YtgblginphicacaaGreatPFnClassesToldx0
import Derived.Test.YtgblginphicacaaGreatPFnClassesToldx2
import Derived.Test.YtgblginphicacaaGreatPFnClassesToldx6
import Derived.Test.YtgblginphicacaaGreatPFnClassesToldx8
import Derived.Test.YtgblginphicacaaGreatPFnClassesToldx21
namespace Go.Proofs.YtgblginphicacaaGreat.PFnClassesTold
open Go.RowKit Go.Proofs.YtgblginphicacaaGreatW.PrintWords Go.Proofs.YtgblginphicacaaGreatW.PrintLast Go.Proofs.YtgblginphicacaaGreatW.PrintMore
set_option maxHeartbeats 8000000
set_option maxRecDepth 100000
attribute [local go_sem] yT yV vX vY jX jY yU yX   -- for this text's walks alone
set_option linter.unusedVariables false
set_option linter.unusedSimpArgs false

/-! ### zz: function 100 -/
def zz.l0 : Nat → List Int → List Int → List Int → Int → Int → Option (Int)
 | 0, _, _, _, _, _ => none
 | k + 1, x0, x1, x9, x10, x11 => if x11 < x10 then (if 0 ≤ x11 then (if x11 < (x9.length : Int) then (if x11 ≥ (x1.length : Int) then (some 1) else (if x11 < (x1.length : Int) then ((cmp_Compare_int.f (rd x9 x11) (rd x1 x11)).bind fun aa => (if aa = 0 then (zz.l0 k x0 x1 x9 x10 (wrap64 (x11 + 1))) else (some aa))) else (none))) else (none)) else (none)) else (if (x0.length : Int) < (x1.length : Int) then (some (-1)) else (some 0))
def zz.f (k : Nat) (l0 : List Int) (l1 : List Int) : Option (Int) := zz.l0 k l0 l1 l0 (l0.length : Int) 0
theorem zz.calls (k : Nat) (A0 : Option Addr) (c0 : Nat) (l0 : List Int) (A1 : Option Addr) (c1 : Nat) (l1 : List Int) (r : Int) (w : World) (HR0 : Kd.C (Kd.int .i64) w A0 l0.length l0) (HC0 : l0.length ≤ c0) (HR1 : Kd.C (Kd.int .i64) w A1 l1.length l1) (HC1 : l1.length ≤ c1) (h : zz.f k l0 l1 = some r) :
  Calls Tryz.prog 100 #[.slice A0 l0.length c0, .slice A1 l1.length c1] w fun e w' => e = .returned (.int .i64 r) ∧ zh w w' := by
 replace HR0 := qa.mk HR0;replace HC0 := qa.mk HC0;replace HR1 := qa.mk HR1;replace HC1 := qa.mk HC1;have H := h;unfold zz.f at H;clear h;have H' := qa.mk H;clear H;go_enter Tryz.func100, Tryz.ntmps100;go_wp2;go_loopg [11] k (fun kq v11 w' => ∃ (aa : Int), v11 = .int .i64 aa ∧ qa (zz.l0 kq l0 l1 l0 (l0.length : Int) aa = some r) ∧ kq ≤ k ∧ zh w w');(case atStart => exact ⟨(0), qY, H', Nat.le_refl _, d0_⟩);case round =>
  clear H';obtain ⟨aa, rfl, HA, HK1, ⟨m1, rfl⟩⟩ := hrel;obtain ⟨k1, rfl, H⟩ := sx_ (zz.l0 · _ _ _ _ _) gk HA;clear HA;simp only [zz.l0] at H;replace H := id_ H;rcases H with ⟨ap, H⟩ | ⟨ap, H⟩
  ·replace H := it_ H;obtain ⟨ax, H⟩ := H;replace H := it_ H;obtain ⟨ay, H⟩ := H;replace H := ic_ H;rcases H with ⟨c6, H⟩ | ⟨c6, H⟩
   ·have aq : decide ((l1.length : Int) ≤ aa) = true := decide_eq_true c6;clear c6;obtain rfl := Option.some.inj H;obtain ⟨ah, ai, af, ab, ac⟩ := xV HR0.out aa;cases ab;go_wp2;go_ret;exact dr_
   ·have aq : decide ((l1.length : Int) ≤ aa) = false := decide_eq_false c6;clear c6;replace H := it_ H;obtain ⟨az, H⟩ := H;replace H := bd_ H;obtain ⟨aj, A8, H⟩ := H;replace H := ie_ H;rcases H with ⟨ar, au, H⟩ | ⟨ar, au, H⟩
    ·have H' := qa.mk H;clear H;obtain ⟨ah, ai, af, ab, ac⟩ := xV HR0.out aa;cases ab;obtain ⟨av, aw, ak, ae, ag⟩ := xV HR1.out aa;cases ae;go_wp2_with (first | ((with_reducible refine gt_ 96 ?_); refine gc_ 96 26 (cmp_Compare_int.calls (rd l0 aa) (rd l1 aa) aj _ A8.out) ?_; rintro _ w' ⟨rfl, nd, rfl⟩; refine ⟨_, rfl, ?_⟩));go_roundg k1;(case measure => omega);case rel => exact ⟨(wrap64 (aa + 1)), qY, H', by omega, d0_⟩
    ·obtain rfl := Option.some.inj H;obtain ⟨ah, ai, af, ab, ac⟩ := xV HR0.out aa;cases ab;obtain ⟨av, aw, ak, ae, ag⟩ := xV HR1.out aa;cases ae;go_wp2_with (first | ((with_reducible refine gt_ 96 ?_); refine gc_ 96 26 (cmp_Compare_int.calls (rd l0 aa) (rd l1 aa) aj _ A8.out) ?_; rintro _ w' ⟨rfl, nd, rfl⟩; refine ⟨_, rfl, ?_⟩));go_ret;exact dr_
  ·replace H := ic_ H;rcases H with ⟨c10, H⟩ | ⟨c10, H⟩
   ·have al : decide ((l0.length : Int) < (l1.length : Int)) = true := decide_eq_true c10;have ao : decide (l0.length < l1.length) = true := decide_eq_true (Int.ofNat_lt.mp c10);clear c10;obtain rfl := Option.some.inj H;go_wp2;go_ret;exact dr_
   ·have al : decide ((l0.length : Int) < (l1.length : Int)) = false := decide_eq_false c10;have ao : decide (l0.length < l1.length) = false := decide_eq_false (fun h => c10 (Int.ofNat_lt.mpr h));clear c10;obtain rfl := Option.some.inj H;go_wp2;go_ret;exact dr_

/-! ### yI: function 99 -/
-- needs: nothing (a row of one cell an element whose elements lie apart, Kd.S, sorted by the library; imports Derived.Shelf.SlSortCmp.NoneTotal)
section
variable {α β : Type} [Inhabited α] {enc : α → Value} {d : Kd β} {e : Nat}
theorem heap_sorted1 {w : World} {g n : Nat} {os : Array Obj} {cur : Array Value} {fr : Nat × Nat} (D : Array α) (hb : w.heap[g]? = some (.cells cur e fr)) :
  (sortWorld enc w g 0 n D os).heap[g]? = some (.cells (Go.Sort.putCells enc 0 D cur) e fr) := by
 have hg : g < w.heap.size := (Array.getElem?_eq_some_iff.1 hb).1;unfold sortWorld;rw [Go.Sort.heap_grow_old _ _ (by simpa using hg)];simp [Go.Sort.putRow, Go.Sort.mapBlock, Go.Sort.ahead, Array.getElem?_modify, hb, Go.Sort.onCells]
theorem kR {w : World} {g n : Nat} {os : Array Obj} (D : Array α) : w.grownBy (sortWorld enc w g 0 n D os) (some g) := by
 unfold sortWorld;refine ⟨rfl, rfl, rfl, by simp, fun j hk hne => ?_⟩;rw [Go.Sort.heap_grow_old _ _ (by simpa using hk)];have : g ≠ j := fun e => hne (by rw [e]);simp [Go.Sort.putRow, Go.Sort.mapBlock, Go.Sort.ahead, Array.getElem?_modify, this]
theorem take_putCells1 (cur : Array Value) (ts : List α) (h : ts.length ≤ cur.size) : (Go.Sort.putCells enc 0 ts.toArray cur).toList.take ts.length = ts.map enc := by
 apply List.ext_getElem?;intro j;by_cases hj : j < ts.length
 ·rw [List.getElem?_take_of_lt hj, Array.getElem?_toList];simp [Go.Sort.putCells, hj, show j < cur.size by omega]
 ·rw [List.getElem?_take_eq_none (by omega), List.getElem?_eq_none (by simp; omega)]
end
theorem nodup_at {α : Type} {l : List α} (h : l.Nodup) {i j : Nat} (hi : i < l.length) (hj : j < l.length) (he : l[i] = l[j]) : i = j := by
 rcases Nat.lt_trichotomy i j with c | c | c
 ·exact absurd he (List.pairwise_iff_getElem.1 h i j hi hj c)
 ·exact c
 ·exact absurd he.symm (List.pairwise_iff_getElem.1 h j i hj hi c)
/-- The block's new owner: where the old one now stands. -/
noncomputable def Qe {n : Nat} (f : Nat → Nat) (σ : List (Fin n)) (k : Nat) : Nat := open Classical in if h : ∃ j, ∃ hj : j < σ.length, (σ[j]).val = f k then Classical.choose h else n
theorem ownerAt_is {n : Nat} {f : Nat → Nat} {σ : List (Fin n)} (hn : σ.Nodup) {k j : Nat} (hj : j < σ.length) (he : f k = (σ[j]).val) : Qe f σ k = j := by
 have h : ∃ j, ∃ hj : j < σ.length, (σ[j]).val = f k := ⟨j, hj, he.symm⟩;unfold Qe;rw [dif_pos h];obtain ⟨h1, h2⟩ := Classical.choose_spec h;exact nodup_at hn h1 hj (Fin.ext (by rw [h2, he]))
/-- A row of the call's own whose elements (of one cell) lie apart: sorted by whatever permutation of its places. -/
theorem S_sorted {β : Type} {d : Kd β} {e : Nat} (hsz : d.sz = 1) {w : World} {base : Nat} {ok : Nat → Prop} {v : Value} {xs : List β} (h : Kd.S d e w base ok v xs) (h0 : 0 < xs.length) [Inhabited (Fin xs.length)] :
  ∃ g c, ∃ enc : Fin xs.length → Value, v = .slice (some ⟨g, 0, none⟩) xs.length c ∧ base ≤ g ∧ g < w.heap.size ∧ (∀ i, (enc i).oneCell' = true) ∧ Go.Sort.Holds enc w g 0 (List.finRange xs.length).toArray ∧ (∀ i, d.M w base (fun k => ok k ∧ k ≠ g) xs[i] [enc i]) ∧
   ∀ (σ : List (Fin xs.length)), σ.Perm (List.finRange xs.length) → ∀ m os, Kd.S d e (sortWorld enc w g 0 m σ.toArray os) base ok v (σ.map fun i => xs[i]) := by
 obtain ⟨f, h1, inner, ho, hr⟩ := h;have hszt : (Kd.tag f d).sz = 1 := hsz;obtain ⟨hi, ho⟩ := ho;rw [hszt, Nat.mul_one, List.length_zipIdx] at hi;rcases ho with ⟨_, ho⟩ | ⟨g, c, cur, rfl, hg, hb, h2, h3, h4, h5⟩
 ·rw [List.length_zipIdx] at ho;omega
 ·rw [List.length_zipIdx] at h2 h5;rw [hszt, Nat.mul_one] at h4 h5
  have hcell : ∀ (i : Nat) (hi' : i < xs.length), (Kd.tag f d).M w base (fun k => ok k ∧ some k ≠ (Value.slice (some ⟨g, 0, none⟩) xs.length c).ownBlock) (xs[i], i) [inner[i]'(by omega)] := fun i hi' => by
   have hx := hr.2 i (xs[i], i) (by rw [List.getElem?_zipIdx]; simp [hi']);rw [hszt, Nat.mul_one] at hx
   have e1 : (inner.drop i).take 1 = [inner[i]'(by omega)] := by
    rw [List.drop_eq_getElem_cons (by omega)];rfl
   rw [e1] at hx;exact hx
  have hMM : ∀ i : Fin xs.length, d.M w base (fun k => ok k ∧ k ≠ g) xs[i] [inner[i.val]'(by omega)] := fun i =>
   d.M_mono (fun k hk => ⟨hk.1.1, fun e => hk.1.2 (by subst e; rfl)⟩) (hcell i.val i.isLt)
  refine ⟨g, c, fun i => inner[i.val]'(by omega), by rw [List.length_zipIdx], hg, (Array.getElem?_eq_some_iff.1 hb).1, fun i => d.K_one (d.K_of_M (hMM i)) _ List.mem_cons_self, ?_, hMM, ?_⟩
  ·intro j hj;have hj' : j < xs.length := (by simpa using hj);refine ⟨?_, by simp [World.frozen?, hb]⟩
   have hcj : cur[j]? = some (inner[j]'(by omega)) := by
    have h6 := congrArg (fun l => l[j]?) h5;simp only [List.getElem?_take_of_lt hj', Array.getElem?_toList] at h6;rw [h6, List.getElem?_eq_getElem (by omega)]
   simp only [World.cell?, hb, Nat.zero_add];simp only [Option.isSome_none, Bool.false_eq_true, if_false];rw [hcj, getElem!_pos _ j hj];simp
  ·intro σ hσ m os;have hlen : σ.length = xs.length := (by rw [hσ.length_eq, List.length_finRange]);have hnd : σ.Nodup := (hσ.nodup_iff).2 (List.nodup_finRange _);have hgr := kR (enc := fun i : Fin xs.length => inner[i.val]'(by omega)) (w := w) (g := g) (n := m) (os := os) σ.toArray;have hcz : σ.length ≤ cur.size := (by omega);refine ⟨Qe f σ, h1, σ.map (fun i : Fin xs.length => inner[i.val]'(by omega)), ⟨by simp only [List.length_map, List.length_zipIdx]; rw [show (Kd.tag (Qe f σ) d).sz = 1 from hsz, Nat.mul_one], .inr ⟨g, c, _, by simp only [List.length_map, List.length_zipIdx]; rw [hlen], hg, heap_sorted1 σ.toArray hb, by simp only [List.length_map, List.length_zipIdx]; omega, h3, by rw [show (Kd.tag (Qe f σ) d).sz = 1 from hsz, Nat.mul_one]; simp [Go.Sort.putCells, h4], ?_⟩⟩, ?_, ?_⟩
   ·simp only [List.length_map, List.length_zipIdx];rw [show (Kd.tag (Qe f σ) d).sz = 1 from hsz, Nat.mul_one];exact take_putCells1 cur σ hcz
   ·simp only [List.length_map, List.length_zipIdx];rw [show (Kd.tag (Qe f σ) d).sz = 1 from hsz, Nat.mul_one]
   ·intro j p hp;rw [List.getElem?_zipIdx] at hp;simp only [List.getElem?_map, Nat.zero_add] at hp;obtain ⟨x, hx, rfl⟩ := Option.map_eq_some_iff.1 hp;obtain ⟨i, hi', rfl⟩ := Option.map_eq_some_iff.1 hx;obtain ⟨hj, rfl⟩ := List.getElem?_eq_some_iff.1 hi'
    have e1 : ((σ.map (fun i : Fin xs.length => inner[i.val]'(by omega))).drop j).take 1 = [inner[(σ[j]).val]'(by omega)] := by
     rw [List.drop_eq_getElem_cons (by simpa using hj)];simp
    rw [show (Kd.tag (Qe f σ) d).sz = 1 from hsz, Nat.mul_one, e1];have hM := hcell (σ[j]).val (σ[j]).isLt;have hM2 : (Kd.tag (Qe f σ) d).M w base (fun k => ok k ∧ some k ≠ (Value.slice (some ⟨g, 0, none⟩) xs.length c).ownBlock) (xs[(σ[j]).val], j) [inner[(σ[j]).val]'(by omega)] :=
     d.M_mono (fun k hk => ⟨hk.1, ownerAt_is hnd hj hk.2⟩) hM
    refine Kd.M_step hM2 (fun k hk hlt => hgr.block k hlt (fun e => hk.2 (by rw [e]; rfl)))

/-- The comparison of two lists. -/
def cmpL : List Int → List Int → Int
 | [], [] => 0
 | [], _ :: _ => -1
 | _ :: _, [] => 1
 | a :: l, b :: m => if a < b then -1 else if b < a then 1 else cmpL l m
theorem cmpL_lt : ∀ x y : List Int, cmpL x y < 0 ↔ x < y
 | [], [] => by simp [cmpL]
 | [], _ :: _ => by simp [cmpL]
 | _ :: _, [] => by simp [cmpL]
 | a :: l, b :: m => by
  rw [List.cons_lt_cons_iff];unfold cmpL;by_cases h1 : a < b
  ·rw [if_pos h1]; simp [h1]
  ·rw [if_neg h1];by_cases h2 : b < a
   ·rw [if_pos h2];constructor
    ·intro h; omega
    ·intro h; rcases h with h | h
     ·exact absurd h h1
     ·omega
   ·rw [if_neg h2, cmpL_lt l m];have : a = b := (by omega);simp [h1, this]
theorem Zh (a b : Int) : cmp_Compare_int.f a b = some (if a < b then -1 else if b < a then 1 else 0) := by
 unfold cmp_Compare_int.f cmp_isNaN_int.f;simp only [bne_self_eq_false, Option.bind_some, Bool.false_eq_true, if_false];by_cases h1 : a < b
 ·rw [if_pos h1, if_pos h1]
 ·rw [if_neg h1, if_neg h1];by_cases h2 : b < a
  ·rw [if_pos h2, if_pos h2]
  ·rw [if_neg h2, if_neg h2]
theorem rdI_at (l : List Int) (i : Nat) (h : i < l.length) : rd l (i : Int) = l[i] := by
 unfold rd;rw [Int.toNat_natCast, List.getD_eq_getElem?_getD, List.getElem?_eq_getElem h];rfl
theorem Zr (x y : List Int) (hx : x.length ≤ 9223372036854775807) : ∀ (d i k : Nat), i + d = x.length → i ≤ y.length → d < k → zz.l0 k x y x (x.length : Int) (i : Int) = some (cmpL (x.drop i) (y.drop i))
 | 0, i, k, hi, hy, hk => by
  obtain ⟨k, rfl⟩ : ∃ q, k = q + 1 := ⟨k - 1, by omega⟩;rw [zz.l0, if_neg (by omega), List.drop_of_length_le (show x.length ≤ i by omega)];by_cases h : (x.length : Int) < (y.length : Int)
  ·rw [if_pos h, List.drop_eq_getElem_cons (show i < y.length by omega)];rfl
  ·rw [if_neg h, List.drop_of_length_le (show y.length ≤ i by omega)];rfl
 | d + 1, i, k, hi, hy, hk => by
  obtain ⟨k, rfl⟩ : ∃ q, k = q + 1 := ⟨k - 1, by omega⟩;have hlt : i < x.length := (by omega);rw [zz.l0, if_pos (by omega), if_pos (by omega), if_pos (by omega), List.drop_eq_getElem_cons hlt];by_cases h : (i : Int) ≥ (y.length : Int)
  ·rw [if_pos h, List.drop_of_length_le (show y.length ≤ i by omega)];rfl
  ·have hyl : i < y.length := (by omega);rw [if_neg h, if_pos (by omega), rdI_at x i hlt, rdI_at y i hyl, Zh, Option.bind_some, List.drop_eq_getElem_cons hyl];unfold cmpL;by_cases h1 : x[i] < y[i]
   ·rw [if_pos h1, if_pos h1, if_neg (by decide)]
   ·rw [if_neg h1, if_neg h1];by_cases h2 : y[i] < x[i]
    ·rw [if_pos h2, if_pos h2, if_neg (by decide)]
    ·rw [if_neg h2, if_neg h2, if_pos rfl, show wrap64 ((i : Int) + 1) = ((i + 1 : Nat) : Int) by unfold wrap64; omega];exact Zr x y hx d (i + 1) k (by omega) (by omega) (by omega)
theorem kJ (x y : List Int) (hx : x.length ≤ 9223372036854775807) : zz.f (x.length + 1) x y = some (cmpL x y) := by
 have h := Zr x y hx x.length 0 (x.length + 1) (by omega) (by omega) (by omega);rw [List.drop_zero, List.drop_zero] at h;exact h
/-- The order. -/
def qLe (x y : List Int) : Bool := !decide (y < x)
section
variable (xs : List (List Int))
def qCmp (i j : Fin xs.length) : Int := cmpL xs[i] xs[j]
theorem qLt (i j : Fin xs.length) : ltOf (qCmp xs) i j = decide (xs[i] < xs[j]) := by
 unfold ltOf qCmp;exact decide_eq_decide.2 (cmpL_lt _ _)
theorem qSWO : Go.Sort.SWO (ltOf (qCmp xs)) where
 irrefl i := by rw [qLt]; exact decide_eq_false (List.lt_irrefl _)
 trans i j k h1 h2 := by
  rw [qLt] at *;exact decide_eq_true (List.lt_trans (of_decide_eq_true h1) (of_decide_eq_true h2))
 ntrans i j k h1 h2 := by
  rw [qLt] at *;have h1 := List.not_lt.1 (of_decide_eq_false h1);have h2 := List.not_lt.1 (of_decide_eq_false h2);exact decide_eq_false (List.not_lt.2 (List.le_trans h2 h1))
theorem qTot (hn : xs.Nodup) (i j : Fin xs.length) (h1 : ltOf (qCmp xs) i j = false) (h2 : ltOf (qCmp xs) j i = false) : i = j := by
 rw [qLt] at *;have h1 := List.not_lt.1 (of_decide_eq_false h1);have h2 := List.not_lt.1 (of_decide_eq_false h2);exact Fin.ext (nodup_at hn i.isLt j.isLt (List.le_antisymm h2 h1))
end
def qLays_ren : Go.Shelf.Ren := ⟨fun | 6 => 99 | 15 => 120 | 14 => 119 | 28 => 134 | 29 => 135 | 20 => 126 | 21 => 127 | 22 => 128 | 23 => 129 | 24 => 130 | 25 => 131 | 26 => 132 | 27 => 133 | 46 => 146 | 47 => 147 | 48 => 148 | 49 => 149 | 50 => 150 | 57 => 154 | n => n, fun | 22 => 42 | 24 => 45 | 25 => 91 | 3 => 3 | 39 => 103 | 0 => 0 | 53 => 117 | 55 => 70 | 4 => 4 | 46 => 111 | 45 => 110 | 50 => 28 | 5 => 5 | 9 => 9 | 66 => 128 | 70 => 132 | 76 => 136 | 77 => 48 | n => n, fun | n => n⟩
theorem qLays : Go.Proofs.SlLaysF.n6 Tryz.prog qLays_ren := {
 mixed := by kernel_rfl
 f6 := ⟨Tryz.f99.name, by decide, Tryz.func99.trans (congrArg some (by kernel_rfl))⟩
 f14 := ⟨Tryz.f119.name, by decide, Tryz.func119.trans (congrArg some (by kernel_rfl))⟩
 f15 := Tryz.func120.trans (congrArg some (by kernel_rfl))
 f20 := ⟨Tryz.f126.name, by decide, Tryz.func126.trans (congrArg some (by kernel_rfl))⟩
 f21 := ⟨Tryz.f127.name, by decide, Tryz.func127.trans (congrArg some (by kernel_rfl))⟩
 f22 := ⟨Tryz.f128.name, by decide, Tryz.func128.trans (congrArg some (by kernel_rfl))⟩
 f23 := ⟨Tryz.f129.name, by decide, Tryz.func129.trans (congrArg some (by kernel_rfl))⟩
 f24 := ⟨Tryz.f130.name, by decide, Tryz.func130.trans (congrArg some (by kernel_rfl))⟩
 f25 := ⟨Tryz.f131.name, by decide, Tryz.func131.trans (congrArg some (by kernel_rfl))⟩
 f26 := ⟨Tryz.f132.name, by decide, Tryz.func132.trans (congrArg some (by kernel_rfl))⟩
 f27 := ⟨Tryz.f133.name, by decide, Tryz.func133.trans (congrArg some (by kernel_rfl))⟩
 f28 := Tryz.func134.trans (congrArg some (by kernel_rfl))
 f29 := Tryz.func135.trans (congrArg some (by kernel_rfl))
 f46 := ⟨Tryz.f146.name, by decide, Tryz.func146.trans (congrArg some (by kernel_rfl))⟩
 f47 := Tryz.func147.trans (congrArg some (by kernel_rfl))
 f48 := Tryz.func148.trans (congrArg some (by kernel_rfl))
 f49 := ⟨Tryz.f149.name, by decide, Tryz.func149.trans (congrArg some (by kernel_rfl))⟩
 f50 := ⟨Tryz.f150.name, by decide, Tryz.func150.trans (congrArg some (by kernel_rfl))⟩
 f57 := ⟨Tryz.f154.name, by decide, Tryz.func154.trans (congrArg some (by kernel_rfl))⟩
 t0 := Tryz.underlying0
 a0 := Tryz.isAgg0
 z0 := Tryz.sizeOf0
 v0 := Tryz.zeroValue0
 t3 := Tryz.underlying3
 a3 := Tryz.isAgg3
 z3 := Tryz.sizeOf3
 v3 := Tryz.zeroValue3
 t4 := Tryz.underlying4
 a4 := Tryz.isAgg4
 z4 := Tryz.sizeOf4
 v4 := Tryz.zeroValue4
 t5 := Tryz.underlying5
 a5 := Tryz.isAgg5
 z5 := Tryz.sizeOf5
 v5 := Tryz.zeroValue5
 t9 := Tryz.underlying9
 a9 := Tryz.isAgg9
 z9 := Tryz.sizeOf9
 v9 := Tryz.zeroValue9
 t22 := Tryz.underlying42
 a22 := Tryz.isAgg42
 z22 := Tryz.sizeOf42
 v22 := Tryz.zeroValue42
 a24 := Tryz.isAgg45
 z24 := Tryz.sizeOf45
 t25 := Tryz.underlying91
 a25 := Tryz.isAgg91
 z25 := Tryz.sizeOf91
 v25 := Tryz.zeroValue91
 t39 := Tryz.underlying103
 a39 := Tryz.isAgg103
 z39 := Tryz.sizeOf103
 v39 := Tryz.zeroValue103
 t45 := Tryz.underlying110
 a45 := Tryz.isAgg110
 z45 := Tryz.sizeOf110
 v45 := Tryz.zeroValue110
 t46 := Tryz.underlying111
 a46 := Tryz.isAgg111
 z46 := Tryz.sizeOf111
 v46 := Tryz.zeroValue111
 t50 := Tryz.underlying28
 a50 := Tryz.isAgg28
 z50 := Tryz.sizeOf28
 v50 := Tryz.zeroValue28
 t53 := Tryz.underlying117
 a53 := Tryz.isAgg117
 z53 := Tryz.sizeOf117
 v53 := Tryz.zeroValue117
 t55 := Tryz.underlying70
 a55 := Tryz.isAgg70
 z55 := Tryz.sizeOf70
 v55 := Tryz.zeroValue70
 t66 := Tryz.underlying128
 a66 := Tryz.isAgg128
 z66 := Tryz.sizeOf128
 v66 := Tryz.zeroValue128
 t70 := Tryz.underlying132
 a70 := Tryz.isAgg132
 z70 := Tryz.sizeOf132
 v70 := Tryz.zeroValue132
 t76 := Tryz.underlying136
 a76 := Tryz.isAgg136
 z76 := Tryz.sizeOf136
 v76 := Tryz.zeroValue136
 t77 := Tryz.underlying48
 a77 := Tryz.isAgg48
 z77 := Tryz.sizeOf48
 v77 := Tryz.zeroValue48 }

def yI.f (l0 : List (List Int)) : Option (List (List Int)) := if l0.isEmpty = false ∧ l0.length ≤ 1048576 ∧ l0.Nodup then some (l0.mergeSort qLe) else none
set_option maxHeartbeats 4000000 in
set_option maxRecDepth 100000 in
theorem yI.calls (P0_ : Nat → Prop) (u9000_ : Value) (l0 : List (List Int)) (r : List (List Int)) (w0 w : World) (hB : Below w0.heap.size w0 w) (ho0 : Kd.S (Kd.slice 3 (Kd.int .i64)) 45 w w0.heap.size (fun _ => True) u9000_ l0) (h : yI.f l0 = some r) :
  Calls Tryz.prog 99 #[u9000_, .func (.func 100) #[] #[]] w fun e w' => e = .returned (.tuple #[]) ∧ Kd.S (Kd.slice 3 (Kd.int .i64)) 45 w' w0.heap.size (fun _ => True) u9000_ r ∧ Below w0.heap.size w0 w' ∧ Kept w w' (fun k_ => some k_ = u9000_.ownBlock) := by
 have H := h;unfold yI.f at H;clear h;by_cases c : l0.isEmpty = false ∧ l0.length ≤ 1048576 ∧ l0.Nodup
 ·rw [if_pos c] at H;obtain rfl := Option.some.inj H;obtain ⟨c1, c2, c3⟩ := c
  have hpos : 0 < l0.length := by
   cases l0 with
   | nil => cases c1
   | cons _ _ => simp
  haveI : Inhabited (Fin l0.length) := ⟨⟨0, hpos⟩⟩
  obtain ⟨g, cp, enc, rfl, hg, hlt, h1, hH, hM, hS⟩ := S_sorted rfl ho0 hpos
  have hmap := List.map_mergeSort (r := fun x y : Fin l0.length => !(ltOf (qCmp l0)) y x) (s := qLe) (f := fun i => l0[i]) (l := List.finRange l0.length) (fun a _ b _ => by
   rw [qLt];rfl)
  have hfr : (List.finRange l0.length).map (fun i => l0[i]) = l0 := by
   apply List.ext_getElem
   ·simp
   ·intro j h1 h2;simp
  rw [hfr] at hmap
  have hlays : CmpLays1 Tryz.prog 100 #[] enc (qCmp l0) g 0 (List.finRange l0.length).toArray.size w := by
   intro m os dk _ x y;have hgr := kR (enc := enc) (w := w) (g := g) (n := m) (os := os) dk;have hx := Kd.M_step (hM x) (w1 := sortWorld enc w g 0 m dk os) (fun k hk hl => hgr.block k hl (fun e => hk.2 (Option.some.inj e)));have hy := Kd.M_step (hM y) (w1 := sortWorld enc w g 0 m dk os) (fun k hk hl => hgr.block k hl (fun e => hk.2 (Option.some.inj e)));obtain ⟨A1, c1, e1, hc1, hC1⟩ := (Kd.slice 3 (Kd.int .i64)).K_of_M hx;obtain ⟨A2, c2, e2, hc2, hC2⟩ := (Kd.slice 3 (Kd.int .i64)).K_of_M hy;injection e1 with e1;injection e2 with e2;rw [e1, e2];refine (zz.calls _ A1 c1 l0[x] A2 c2 l0[y] _ _ hC1 hc1 hC2 hc2 (kJ l0[x] l0[y] hC1.2.1)).mono ?_;rintro e w' ⟨rfl, ⟨q, rfl⟩⟩;exact ⟨rfl, q, #[], by rw [Go.Sort.grow_empty]⟩
  have hcon := Any.slices_SortFunc_total qLays enc h1 (qCmp l0) (qSWO l0) 100 #[] g 0 cp (List.finRange l0.length).toArray w (enters_of Tryz.func100 (by kernel_rfl) rfl) hlays hH hlt (by simp only [List.size_toArray, List.length_finRange]; omega) (qTot l0 c3);simp only [List.size_toArray, List.length_finRange] at hcon;refine hcon.mono ?_;rintro e w' ⟨rfl, n, os, rfl⟩;have hgr := kR (enc := enc) (w := w) (g := g) (n := n) (os := os) ((List.finRange l0.length).mergeSort fun x y => !(ltOf (qCmp l0)) y x).toArray;refine ⟨rfl, ?_, ?_, ?_⟩
  ·rw [← hmap];exact hS _ (List.mergeSort_perm _ _) n os
  ·exact hB.grown hgr hB.size (fun k hk => by injection hk with hk; subst hk; exact hg)
  ·exact Kept.uR hgr (Kept.refl w _) (fun k hk => by injection hk with hk; subst hk; exact Or.inl rfl)
 ·rw [if_neg c] at H;cases H

/-! ### zg: function 66 -/
def zg.l0 : Nat → Int → List (List Int) → List (List (S62)) → Int → Int → Option ((List (List Int)))
 | 0, _, _, _, _, _ => none
 | k + 1, x0, x3, x8, x9, x10 => if x10 < x9 then (if 0 ≤ x10 then (if x10 < (x8.length : Int) then ((zY.f k x0 (yA x8 x10)).bind fun aa => (if x3.length < 5864062014805 then (zg.l0 k x0 (x3 ++ [aa]) x8 x9 (wrap64 (x10 + 1))) else (none))) else (none)) else (none)) else ((yI.f x3).bind fun ab => (some ab))
def zg.f (k : Nat) (a0 : Int) : Option ((List (List Int))) := (z8.f k a0).bind fun aa => (zg.l0 k a0 (([] : List (List Int))) aa (aa.length : Int) 0)
theorem zg.calls (k : Nat) (a0 : Int) (r : List (List Int)) (w : World) (h : zg.f k a0 = some r) :
  Calls Tryz.prog 66 #[.int .i64 a0] w fun e w' => ∃ v0_ : Value, e = .returned (v0_) ∧ Kd.S (Kd.slice 3 (Kd.int .i64)) 45 w' w.heap.size (fun _ => True) v0_ r ∧ Below w.heap.size w w' := by
 have HB := qa.mk (Below.refl w.heap.size w);have H := h;unfold zg.f at H;clear h;obtain ⟨aq, ah⟩ : ∃ y_ : List (List Int), y_ = (([] : List (List Int))) := ⟨_, rfl⟩;replace H : ((z8.f k a0).bind fun ab => (zg.l0 k a0 aq ab (ab.length : Int) 0)) = some r := hyy_ ah H;have ax := qa.mk ah;clear ah;replace H := bd_ H;obtain ⟨ab, A2, H⟩ := H;have H' := qa.mk H;clear H;go_enter Tryz.func66, Tryz.ntmps66;go_wp2_with (first | ((with_reducible refine gd_ 6 ?_); refine Kd.S_lit (Kd.slice 3 (Kd.int .i64)) _ 45 ?hg (N := 6) ?hd (xs := ([] : List (List Int))) (inner := []) (ok := fun _ => True) (okp := fun _ => True) ?hr ?hp (fun _ hk => hk) trivial (Below.refl _ _) (Nat.le_refl _) (by simp) ?_; (case hd => rfl); (case hg => rfl); (case hr => first | (go_simp; done) | (go_simp; rfl)); (case hp => exact (zQ.none _ _)); intro a9 w3 ho4 hb hg_ hnew_; clear hg_ hnew_; replace ho4 := nyS_ ax ho4; have ai := qa.mk (Kd.kN ho4 zw); replace HB := bs_ hb; clear hb ho4) | ((with_reducible refine gt_ 79 ?_); refine gc_ 79 8 (z8.calls k a0 ab _ A2.out) ?_; rintro _ w5 ⟨ba, rfl, ho0, hb⟩; refine ⟨_, rfl, ?_⟩; have al := qa.mk (Kd.kN ho0 zw); replace ai := qa.mk (Kd.wT (sa_ ai.out) hb); replace HB := bs_ hb; obtain ⟨Ao6, co6, eo6⟩ := Kd.wN al.out; subst eo6));go_loopg [3, 10] k (fun kq v3 v10 w' => ∃ (ac : List (List Int)) (aa : Int), v10 = .int .i64 aa ∧ qa (zg.l0 kq a0 ac ab (ab.length : Int) aa = some r) ∧ kq ≤ k ∧ qa (Kd.S (Kd.slice 3 (Kd.int .i64)) 45 w' w.heap.size (fun _ => True) v3 ac) ∧ qa (Kd.S (Kd.slice 62 k62) 32 w' w.heap.size (fun _ => True) (.slice Ao6 ab.length co6) ab) ∧ qa (Below w.heap.size w w'));(case atStart => exact ⟨(aq), (0), qY, H', Nat.le_refl _, ⟨sa_ ai.out⟩, ⟨sa_ al.out⟩, ⟨qX⟩⟩);case round =>
  clear H';obtain ⟨ac, aa, rfl, HA, HK1, HO_3, HO_8, HB⟩ := hrel;obtain ⟨k1, rfl, H⟩ := sx_ (zg.l0 · _ _ _ _ _) gk HA;clear HA;simp only [zg.l0] at H;replace H := id_ H;rcases H with ⟨a2, H⟩ | ⟨a2, H⟩
  ·replace H := it_ H;obtain ⟨bb, H⟩ := H;replace H := it_ H;obtain ⟨bc, H⟩ := H;replace H := bd_ H;obtain ⟨ag, A10, H⟩ := H;replace H := ia_ H;obtain ⟨ay, H⟩ := H;generalize an : (ac ++ [ag]) = a3 at H;have az := qa.mk an.symm;clear an;have H' := qa.mk H;clear H;have aj : 0 ≤ (aa : Int) := qI;have ak : aa < (ab.length : Int) := qI;obtain ⟨a8, A598_0, c598_0, a4, ao, hl598_0, hi598_0⟩ := Zo (Kd.wB HO_8.out).2.2 aa aj ak;cases a4;obtain ⟨ce598, hce598, hMe598, hcc598⟩ := Kd.S_get HO_8.out [] aa aj (by first | exact ak | exact qI | (have e_ := (Kd.wB HO_8.out).1; omega));obtain ⟨ve598_0, rfl, ge598_0⟩ := hMe598;have hv598_0 := hcc598 0 _ rfl;rw [Nat.add_zero, show ((Kd.slice 62 k62)).sz = 1 from rfl, Nat.mul_one] at hv598_0;replace hv598_0 := Option.some.inj (hv598_0.symm.trans ao);rw [hv598_0] at ge598_0;have HL598_0 := qa.mk (show Kd.R k62 62 _ _ _ _ (yA ab aa) from ge598_0);clear hv598_0 ge598_0;clear hcc598 hce598;have ae := qa.mk hi598_0;have ap := qa.mk hl598_0;clear hi598_0 hl598_0;replace aj := eq_true aj;replace ak := eq_true ak;go_wp2_with (first | ((with_reducible refine gt_ 98 ?_); refine gc_ 98 17 (zY.calls k1 a0 _ _ (yA ab aa) ag _ (cd_ (cd_ ae.out)) ap.out A10.out) ?_; rintro _ w12 ⟨bd, rfl, ho0, hb⟩; refine ⟨_, rfl, ?_⟩; have af := qa.mk (Kd.qy ho0 zw); replace HO_3 := qa.mk (Kd.Z9 (sa_ HO_3.out) (Kd.uV ho0) hb); replace HO_8 := qa.mk (Kd.wT (sa_ HO_8.out) hb); replace HL598_0 := rb_ HL598_0 hb; replace ae := cb_ ae hb; replace HB := bs_ hb; obtain ⟨ar, au, a5⟩ := Kd.ql af.out; subst a5) | ((with_reducible refine ga_ 14 18 ?_); at_builtin; refine Kd.S_append (Kd.slice 3 (Kd.int .i64)) (w0 := w) w.heap.size rfl (.tmp 14) (.tmp 18) 42 45 (.slice none 0 0) 24 rfl Tryz.underlying42 Qn rfl (by decide) (by omega) u3 ac ag [.slice ar ag.length au] (fun _ => True) (fun k_ => some k_ = (.slice ar ag.length au : Value).ownBlock) rfl rfl ?aP (fun k_ hk_ => ((Kd.qj (ok' := fun k_ => ((fun _ => True)) k_ ∧ some k_ ≠ (u3 : Value).ownBlock) (Kd.xf (af.out) (Kd.Q6 HO_3.out) (by decide)) (fun k_ hk => ⟨trivial, hk.2⟩))).1 k_ hk_.symm) ?aF ?aO ?aB ?aS ?aL ?_; (case aP => exact Kd.M_row (Kd.qj (Kd.xZ rfl (Kd.qj (ok' := fun k_ => ((fun _ => True)) k_ ∧ some k_ ≠ (u3 : Value).ownBlock) (Kd.xf (af.out) (Kd.Q6 HO_3.out) (by decide)) (fun k_ hk => ⟨trivial, hk.2⟩))) (fun _ h_ => h_))); (case aB => exact qX); (case aF => exact (fun _ _ => trivial)); (case aO => exact (ss_ (Kd.ku HO_3.out (fun k_ hk => ⟨trivial, fun e_ => hk.2 e_⟩)))); (case aS => exact zw); (case aL => have := ay.out; omega); intro bf w13 ho hb hg hat; rw [← az.out] at ho; have a1 := qa.mk ho; replace HO_8 := qa.mk (Kd.S_over' (sa_ HO_8.out) (Kd.Q6 (sa_ HO_3.out)) (by decide) hg); replace HL598_0 := qa.mk (Kd.xL (ra_ HL598_0.out) (Kd.Q6 (sa_ HO_3.out)) (by decide) hg); replace HB := qa.mk hb; clear HO_3 af; clear ho hb hg hat));go_roundg k1;(case measure => omega);case rel => exact ⟨(a3), (wrap64 (aa + 1)), qY, H', by omega, ⟨sa_ a1.out⟩, ⟨sa_ HO_8.out⟩, ⟨qX⟩⟩
  ·replace H := bd_ H;obtain ⟨a6, A15, H⟩ := H;obtain rfl := Option.some.inj H;obtain ⟨av, aw, a7⟩ := Kd.wN HO_3.out;subst a7;go_wp2_with (first | ((with_reducible refine gt_ 99 ?_); refine gc_ 99 22 (yI.calls (fun k_ => some k_ = (.slice av ac.length aw : Value).ownBlock) (.slice av ac.length aw) ac  a6 w _ vI HO_3.out A15.out) ?_; rintro _ w17 ⟨rfl, hy0, hb, hkp⟩; refine ⟨_, rfl, ?_⟩; replace HO_8 := qa.mk (Kd.ku (ok' := fun k_ => True) (Kd.S_keptB ((Kd.S_apart' HO_8.out (Kd.Q6 HO_3.out) (by decide))) hkp (fun k_ hk_ hs_ => (hk_.2) hs_)) (fun k_ hk_ => trivial)); replace HO_3 := qa.mk hy0; replace HB := qa.mk hb));go_ret;exact ⟨_, rs_, sa_ HO_3.out, qX⟩

/-! ### zU: function 28 -/
def zU.f (k : Nat) (a0 : Int) : Option ((List (List Int)) × Bool) := (qw.f a0).bind fun aa => (if aa = true then ((zg.f k a0).bind fun ab => (some (ab, true))) else (some (([] : List (List Int)), false)))
theorem zU.calls (k : Nat) (a0 : Int) (r1 : List (List Int)) (r2 : Bool) (w : World) (h : zU.f k a0 = some (r1, r2)) :
  Calls Tryz.prog 28 #[.int .i64 a0] w fun e w' => ∃ v0_ : Value, e = .returned (.tuple #[v0_, .bool r2]) ∧ Kd.S (Kd.slice 3 (Kd.int .i64)) 45 w' w.heap.size (fun _ => True) v0_ r1 ∧ Below w.heap.size w w' := by
 have HB := qa.mk (Below.refl w.heap.size w);have H := h;unfold zU.f at H;clear h;replace H := bd_ H;obtain ⟨ac, A2, H⟩ := H;replace H := yL H;rcases H with ⟨rfl, H⟩ | ⟨rfl, H⟩
 ·replace H := bd_ H;obtain ⟨ab, A4, H⟩ := H;simp only [Option.some.injEq, Prod.mk.injEq] at H;obtain ⟨rfl, rfl⟩ := H;go_enter Tryz.func28, Tryz.ntmps28;go_wp2_with (first | ((with_reducible refine gt_ 40 ?_); refine gc_ 40 5 (qw.calls a0 true _ A2.out) ?_; rintro _ w' ⟨rfl, nd, rfl⟩; refine ⟨_, rfl, ?_⟩) | ((with_reducible refine gt_ 66 ?_); refine gc_ 66 8 (zg.calls k a0 ab _ A4.out) ?_; rintro _ w5 ⟨ae, rfl, ho0, hb⟩; refine ⟨_, rfl, ?_⟩; have aa := qa.mk (Kd.kN ho0 zw); replace HB := bs_ hb));go_ret2;exact ⟨_, rs_, sa_ aa.out, qX⟩
 ·simp only [Option.some.injEq, Prod.mk.injEq] at H;obtain ⟨rfl, rfl⟩ := H;go_enter Tryz.func28, Tryz.ntmps28;go_wp2_with (first | ((with_reducible refine gt_ 40 ?_); refine gc_ 40 5 (qw.calls a0 false _ A2.out) ?_; rintro _ w' ⟨rfl, nd, rfl⟩; refine ⟨_, rfl, ?_⟩));go_ret2;exact ⟨_, rs_, by first | exact Kd.S_nil _ _ _ _ _ | exact Kd.N_nil _ _ _ _ _ | exact Kd.V_nil _ _ _ _ _ | exact Kd.Q_nil _ _ _ _ _ | exact Kd.QN _ _ _ _ _, qX⟩

/-! ### zC: function 73 -/
def zC.l0 : Nat → List Int → List Int → Int → Int → Option (Bool)
 | 0, _, _, _, _ => none
 | k + 1, x0, x1, x7, x8 => if x8 < x7 then (if 0 ≤ x8 then (if x8 < (x0.length : Int) then (if x8 < (x1.length : Int) then (if (rd x0 x8) = (rd x1 x8) then (zC.l0 k x0 x1 x7 (wrap64 (x8 + 1))) else (some (decide ((rd x0 x8) < (rd x1 x8))))) else (none)) else (none)) else (none)) else (some false)
def zC.f (k : Nat) (l0 : List Int) (l1 : List Int) : Option (Bool) := zC.l0 k l0 l1 (l0.length : Int) 0
theorem zC.calls (k : Nat) (A0 : Option Addr) (c0 : Nat) (l0 : List Int) (A1 : Option Addr) (c1 : Nat) (l1 : List Int) (r : Bool) (w : World) (HR0 : Kd.C (Kd.int .i64) w A0 l0.length l0) (HC0 : l0.length ≤ c0) (HR1 : Kd.C (Kd.int .i64) w A1 l1.length l1) (HC1 : l1.length ≤ c1) (h : zC.f k l0 l1 = some r) :
  Calls Tryz.prog 73 #[.slice A0 l0.length c0, .slice A1 l1.length c1] w fun e w' => e = .returned (.bool r) ∧ zh w w' := by
 replace HR0 := qa.mk HR0;replace HC0 := qa.mk HC0;replace HR1 := qa.mk HR1;replace HC1 := qa.mk HC1;have H := h;unfold zC.f at H;clear h;have H' := qa.mk H;clear H;go_enter Tryz.func73, Tryz.ntmps73;go_wp2;(repeat (go_quiet (fail); try go_wp2));go_loopg [8] k (fun kq v8 w' => ∃ (aa : Int), v8 = .int .i64 aa ∧ qa (zC.l0 kq l0 l1 (l0.length : Int) aa = some r) ∧ kq ≤ k ∧ zh w w');(case atStart => exact ⟨(0), qY, H', Nat.le_refl _, d0_⟩);case round =>
  clear H';obtain ⟨aa, rfl, HA, HK1, ⟨m1, rfl⟩⟩ := hrel;obtain ⟨k1, rfl, H⟩ := sx_ (zC.l0 · _ _ _ _) gk HA;clear HA;simp only [zC.l0] at H;replace H := id_ H;rcases H with ⟨ak, H⟩ | ⟨ak, H⟩
  ·replace H := it_ H;obtain ⟨ay, H⟩ := H;replace H := it_ H;obtain ⟨az, H⟩ := H;replace H := it_ H;obtain ⟨a1, H⟩ := H;replace H := ie_ H;rcases H with ⟨al, an, H⟩ | ⟨al, an, H⟩
   ·have H' := qa.mk H;clear H;obtain ⟨ao, ap, ae, ab, ag⟩ := xV HR0.out aa;cases ab;obtain ⟨aq, ar, af, ac, ah⟩ := xV HR1.out aa;cases ac;go_wp2;(repeat (go_quiet (fail); try go_wp2));go_roundg k1;(case measure => omega);case rel => exact ⟨(wrap64 (aa + 1)), qY, H', by omega, d0_⟩
   ·obtain rfl := Option.some.inj H;obtain ⟨ao, ap, ae, ab, ag⟩ := xV HR0.out aa;cases ab;obtain ⟨aq, ar, af, ac, ah⟩ := xV HR1.out aa;cases ac;obtain ⟨a2, a3, ai, au, aw⟩ := xV HR0.out aa;obtain rfl : ae = ai := (by injection au);obtain ⟨a4, a5, aj, av, ax⟩ := xV HR1.out aa;obtain rfl : af = aj := (by injection av);go_wp2;(repeat (go_quiet (fail); try go_wp2));go_ret;exact dr_
  ·obtain rfl := Option.some.inj H;go_wp2;(repeat (go_quiet (fail); try go_wp2));go_ret;exact dr_

end Go.Proofs.YtgblginphicacaaGreat.PFnClassesTold
