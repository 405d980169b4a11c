-- WRITTEN BY A PROGRAM OF THIS WORK (wip/tools/ppatch.py) for this claim.
import Derived.Shelf.SlSortCmp.NoneTotal
import Derived.Ground.SlsfProg
import Derived.Test.YtgblginphicacaaPFnExactRankOfQuiddityx0
import Derived.Test.YtgblginphicacaaPFnExactRankOfQuiddityx8
import Derived.Test.YtgblginphicacaaPFnExactRankOfQuiddityx9
namespace Go.Proofs.Ytgblginphicacaa.PFnExactRankOfQuiddity
open Go.RowKit Go.Proofs.YtgblginphicacaaW.PrintWords Go.Proofs.YtgblginphicacaaW.PrintLast Go.Proofs.YtgblginphicacaaW.PrintMore
attribute [local go_sem] max2_int min2_int max_two min_two max_three min_three max_four min_four   -- for this text's walks alone
set_option linter.unusedVariables false
set_option linter.unusedSimpArgs false

/-! ### slices_SortFunc_int_int: function 54 -/
-- needs: nothing (a row of one cell an element whose elements lie apart, Kd.S, sorted by the library; imports Derived.Shelf.SlSortCmp.NoneTotal)
section
variable {α β : Type} [Inhabited α] {enc : α → Value} {d : Kd β} {e : Nat}
theorem heap_sorted1 {w : World} {g n : Nat} {os : Array Obj} {cur : Array Value} {fr : Nat × Nat} (D : Array α) (hb : w.heap[g]? = some (.cells cur e fr)) :
  (sortWorld enc w g 0 n D os).heap[g]? = some (.cells (Go.Sort.putCells enc 0 D cur) e fr) := by
 have hg : g < w.heap.size := (Array.getElem?_eq_some_iff.1 hb).1
 unfold sortWorld
 rw [Go.Sort.heap_grow_old _ _ (by simpa using hg)]
 simp [Go.Sort.putRow, Go.Sort.mapBlock, Go.Sort.ahead, Array.getElem?_modify, hb, Go.Sort.onCells]
theorem grownBy_sorted1 {w : World} {g n : Nat} {os : Array Obj} (D : Array α) : w.grownBy (sortWorld enc w g 0 n D os) (some g) := by
 unfold sortWorld
 refine ⟨rfl, rfl, rfl, by simp, fun j hk hne => ?_⟩
 rw [Go.Sort.heap_grow_old _ _ (by simpa using hk)]
 have : g ≠ j := fun e => hne (by rw [e])
 simp [Go.Sort.putRow, Go.Sort.mapBlock, Go.Sort.ahead, Array.getElem?_modify, this]
theorem take_putCells1 (cur : Array Value) (ts : List α) (h : ts.length ≤ cur.size) : (Go.Sort.putCells enc 0 ts.toArray cur).toList.take ts.length = ts.map enc := by
 apply List.ext_getElem?
 intro j
 by_cases hj : j < ts.length
 ·rw [List.getElem?_take_of_lt hj, Array.getElem?_toList]
  simp [Go.Sort.putCells, hj, show j < cur.size by omega]
 ·rw [List.getElem?_take_eq_none (by omega), List.getElem?_eq_none (by simp; omega)]
end
theorem nodup_at {α : Type} {l : List α} (h : l.Nodup) {i j : Nat} (hi : i < l.length) (hj : j < l.length) (he : l[i] = l[j]) : i = j := by
 rcases Nat.lt_trichotomy i j with c | c | c
 ·exact absurd he (List.pairwise_iff_getElem.1 h i j hi hj c)
 ·exact c
 ·exact absurd he.symm (List.pairwise_iff_getElem.1 h j i hj hi c)
/-- The block's new owner: where the old one now stands. -/
noncomputable def ownerAt {n : Nat} (f : Nat → Nat) (σ : List (Fin n)) (k : Nat) : Nat := open Classical in if h : ∃ j, ∃ hj : j < σ.length, (σ[j]).val = f k then Classical.choose h else n
theorem ownerAt_is {n : Nat} {f : Nat → Nat} {σ : List (Fin n)} (hn : σ.Nodup) {k j : Nat} (hj : j < σ.length) (he : f k = (σ[j]).val) : ownerAt f σ k = j := by
 have h : ∃ j, ∃ hj : j < σ.length, (σ[j]).val = f k := ⟨j, hj, he.symm⟩
 unfold ownerAt
 rw [dif_pos h]
 obtain ⟨h1, h2⟩ := Classical.choose_spec h
 exact nodup_at hn h1 hj (Fin.ext (by rw [h2, he]))
/-- A row of the call's own whose elements (of one cell) lie apart: sorted by whatever permutation of its places. -/
theorem S_sorted {β : Type} {d : Kd β} {e : Nat} (hsz : d.sz = 1) {w : World} {base : Nat} {ok : Nat → Prop} {v : Value} {xs : List β} (h : Kd.S d e w base ok v xs) (h0 : 0 < xs.length) [Inhabited (Fin xs.length)] :
  ∃ g c, ∃ enc : Fin xs.length → Value, v = .slice (some ⟨g, 0, none⟩) xs.length c ∧ base ≤ g ∧ g < w.heap.size ∧ (∀ i, (enc i).oneCell' = true) ∧ Go.Sort.Holds enc w g 0 (List.finRange xs.length).toArray ∧ (∀ i, d.M w base (fun k => ok k ∧ k ≠ g) xs[i] [enc i]) ∧
   ∀ (σ : List (Fin xs.length)), σ.Perm (List.finRange xs.length) → ∀ m os, Kd.S d e (sortWorld enc w g 0 m σ.toArray os) base ok v (σ.map fun i => xs[i]) := by
 obtain ⟨f, h1, inner, ho, hr⟩ := h
 have hszt : (Kd.tag f d).sz = 1 := hsz
 obtain ⟨hi, ho⟩ := ho
 rw [hszt, Nat.mul_one, List.length_zipIdx] at hi
 rcases ho with ⟨_, ho⟩ | ⟨g, c, cur, rfl, hg, hb, h2, h3, h4, h5⟩
 ·rw [List.length_zipIdx] at ho
  omega
 ·rw [List.length_zipIdx] at h2 h5
  rw [hszt, Nat.mul_one] at h4 h5
  have hcell : ∀ (i : Nat) (hi' : i < xs.length), (Kd.tag f d).M w base (fun k => ok k ∧ some k ≠ (Value.slice (some ⟨g, 0, none⟩) xs.length c).ownBlock) (xs[i], i) [inner[i]'(by omega)] := fun i hi' => by
   have hx := hr.2 i (xs[i], i) (by rw [List.getElem?_zipIdx]; simp [hi'])
   rw [hszt, Nat.mul_one] at hx
   have e1 : (inner.drop i).take 1 = [inner[i]'(by omega)] := by
    rw [List.drop_eq_getElem_cons (by omega)]
    rfl
   rw [e1] at hx
   exact hx
  have hMM : ∀ i : Fin xs.length, d.M w base (fun k => ok k ∧ k ≠ g) xs[i] [inner[i.val]'(by omega)] := fun i =>
   d.M_mono (fun k hk => ⟨hk.1.1, fun e => hk.1.2 (by subst e; rfl)⟩) (hcell i.val i.isLt)
  refine ⟨g, c, fun i => inner[i.val]'(by omega), by rw [List.length_zipIdx], hg, (Array.getElem?_eq_some_iff.1 hb).1, fun i => d.K_one (d.K_of_M (hMM i)) _ List.mem_cons_self, ?_, hMM, ?_⟩
  ·intro j hj
   have hj' : j < xs.length := by simpa using hj
   refine ⟨?_, by simp [World.frozen?, hb]⟩
   have hcj : cur[j]? = some (inner[j]'(by omega)) := by
    have h6 := congrArg (fun l => l[j]?) h5
    simp only [List.getElem?_take_of_lt hj', Array.getElem?_toList] at h6
    rw [h6, List.getElem?_eq_getElem (by omega)]
   simp only [World.cell?, hb, Nat.zero_add]
   simp only [Option.isSome_none, Bool.false_eq_true, if_false]
   rw [hcj, getElem!_pos _ j hj]
   simp
  ·intro σ hσ m os
   have hlen : σ.length = xs.length := by rw [hσ.length_eq, List.length_finRange]
   have hnd : σ.Nodup := (hσ.nodup_iff).2 (List.nodup_finRange _)
   have hgr := grownBy_sorted1 (enc := fun i : Fin xs.length => inner[i.val]'(by omega)) (w := w) (g := g) (n := m) (os := os) σ.toArray
   have hcz : σ.length ≤ cur.size := by omega
   refine ⟨ownerAt f σ, h1, σ.map (fun i : Fin xs.length => inner[i.val]'(by omega)), ⟨by simp only [List.length_map, List.length_zipIdx]; rw [show (Kd.tag (ownerAt f σ) d).sz = 1 from hsz, Nat.mul_one], .inr ⟨g, c, _, by simp only [List.length_map, List.length_zipIdx]; rw [hlen], hg, heap_sorted1 σ.toArray hb, by simp only [List.length_map, List.length_zipIdx]; omega, h3, by rw [show (Kd.tag (ownerAt f σ) d).sz = 1 from hsz, Nat.mul_one]; simp [Go.Sort.putCells, h4], ?_⟩⟩, ?_, ?_⟩
   ·simp only [List.length_map, List.length_zipIdx]
    rw [show (Kd.tag (ownerAt f σ) d).sz = 1 from hsz, Nat.mul_one]
    exact take_putCells1 cur σ hcz
   ·simp only [List.length_map, List.length_zipIdx]
    rw [show (Kd.tag (ownerAt f σ) d).sz = 1 from hsz, Nat.mul_one]
   ·intro j p hp
    rw [List.getElem?_zipIdx] at hp
    simp only [List.getElem?_map, Nat.zero_add] at hp
    obtain ⟨x, hx, rfl⟩ := Option.map_eq_some_iff.1 hp
    obtain ⟨i, hi', rfl⟩ := Option.map_eq_some_iff.1 hx
    obtain ⟨hj, rfl⟩ := List.getElem?_eq_some_iff.1 hi'
    have e1 : ((σ.map (fun i : Fin xs.length => inner[i.val]'(by omega))).drop j).take 1 = [inner[(σ[j]).val]'(by omega)] := by
     rw [List.drop_eq_getElem_cons (by simpa using hj)]
     simp
    rw [show (Kd.tag (ownerAt f σ) d).sz = 1 from hsz, Nat.mul_one, e1]
    have hM := hcell (σ[j]).val (σ[j]).isLt
    have hM2 : (Kd.tag (ownerAt f σ) d).M w base (fun k => ok k ∧ some k ≠ (Value.slice (some ⟨g, 0, none⟩) xs.length c).ownBlock) (xs[(σ[j]).val], j) [inner[(σ[j]).val]'(by omega)] :=
     d.M_mono (fun k hk => ⟨hk.1, ownerAt_is hnd hj hk.2⟩) hM
    refine Kd.M_step hM2 (fun k hk hlt => hgr.block k hlt (fun e => hk.2 (by rw [e]; rfl)))

/-- The comparison of two lists. -/
def cmpL : List Int → List Int → Int
 | [], [] => 0
 | [], _ :: _ => -1
 | _ :: _, [] => 1
 | a :: l, b :: m => if a < b then -1 else if b < a then 1 else cmpL l m
theorem cmpL_lt : ∀ x y : List Int, cmpL x y < 0 ↔ x < y
 | [], [] => by simp [cmpL]
 | [], _ :: _ => by simp [cmpL]
 | _ :: _, [] => by simp [cmpL]
 | a :: l, b :: m => by
  rw [List.cons_lt_cons_iff]
  unfold cmpL
  by_cases h1 : a < b
  ·rw [if_pos h1]; simp [h1]
  ·rw [if_neg h1]
   by_cases h2 : b < a
   ·rw [if_pos h2]
    constructor
    ·intro h; omega
    ·intro h; rcases h with h | h
     ·exact absurd h h1
     ·omega
   ·rw [if_neg h2, cmpL_lt l m]
    have : a = b := by omega
    simp [h1, this]
theorem cmpI (a b : Int) : cmp_Compare_int.f a b = some (if a < b then -1 else if b < a then 1 else 0) := by
 unfold cmp_Compare_int.f cmp_isNaN_int.f
 simp only [bne_self_eq_false, Option.bind_some, Bool.false_eq_true, if_false]
 by_cases h1 : a < b
 ·rw [if_pos h1, if_pos h1]
 ·rw [if_neg h1, if_neg h1]
  by_cases h2 : b < a
  ·rw [if_pos h2, if_pos h2]
  ·rw [if_neg h2, if_neg h2]
theorem rdI_at (l : List Int) (i : Nat) (h : i < l.length) : rd l (i : Int) = l[i] := by
 unfold rd
 rw [Int.toNat_natCast, List.getD_eq_getElem?_getD, List.getElem?_eq_getElem h]
 rfl
theorem compare_rounds (x y : List Int) (hx : x.length ≤ 9223372036854775807) : ∀ (d i k : Nat), i + d = x.length → i ≤ y.length → d < k → slices_Compare_int_int.l0 k x y x (x.length : Int) (i : Int) = some (cmpL (x.drop i) (y.drop i))
 | 0, i, k, hi, hy, hk => by
  obtain ⟨k, rfl⟩ : ∃ q, k = q + 1 := ⟨k - 1, by omega⟩
  rw [slices_Compare_int_int.l0, if_neg (by omega), List.drop_of_length_le (show x.length ≤ i by omega)]
  by_cases h : (x.length : Int) < (y.length : Int)
  ·rw [if_pos h, List.drop_eq_getElem_cons (show i < y.length by omega)]
   rfl
  ·rw [if_neg h, List.drop_of_length_le (show y.length ≤ i by omega)]
   rfl
 | d + 1, i, k, hi, hy, hk => by
  obtain ⟨k, rfl⟩ : ∃ q, k = q + 1 := ⟨k - 1, by omega⟩
  have hlt : i < x.length := by omega
  rw [slices_Compare_int_int.l0, if_pos (by omega), if_pos (by omega), if_pos (by omega), List.drop_eq_getElem_cons hlt]
  by_cases h : (i : Int) ≥ (y.length : Int)
  ·rw [if_pos h, List.drop_of_length_le (show y.length ≤ i by omega)]
   rfl
  ·have hyl : i < y.length := by omega
   rw [if_neg h, if_pos (by omega), rdI_at x i hlt, rdI_at y i hyl, cmpI, Option.bind_some, List.drop_eq_getElem_cons hyl]
   unfold cmpL
   by_cases h1 : x[i] < y[i]
   ·rw [if_pos h1, if_pos h1, if_neg (by decide)]
   ·rw [if_neg h1, if_neg h1]
    by_cases h2 : y[i] < x[i]
    ·rw [if_pos h2, if_pos h2, if_neg (by decide)]
    ·rw [if_neg h2, if_neg h2, if_pos rfl, show wrap64 ((i : Int) + 1) = ((i + 1 : Nat) : Int) by unfold wrap64; omega]
     exact compare_rounds x y hx d (i + 1) k (by omega) (by omega) (by omega)
theorem compare_tells (x y : List Int) (hx : x.length ≤ 9223372036854775807) : slices_Compare_int_int.f (x.length + 1) x y = some (cmpL x y) := by
 have h := compare_rounds x y hx x.length 0 (x.length + 1) (by omega) (by omega) (by omega)
 rw [List.drop_zero, List.drop_zero] at h
 exact h
/-- The order. -/
def qLe (x y : List Int) : Bool := !decide (y < x)
section
variable (xs : List (List Int))
def qCmp (i j : Fin xs.length) : Int := cmpL xs[i] xs[j]
theorem qLt (i j : Fin xs.length) : ltOf (qCmp xs) i j = decide (xs[i] < xs[j]) := by
 unfold ltOf qCmp
 exact decide_eq_decide.2 (cmpL_lt _ _)
theorem qSWO : Go.Sort.SWO (ltOf (qCmp xs)) where
 irrefl i := by rw [qLt]; exact decide_eq_false (List.lt_irrefl _)
 trans i j k h1 h2 := by
  rw [qLt] at *
  exact decide_eq_true (List.lt_trans (of_decide_eq_true h1) (of_decide_eq_true h2))
 ntrans i j k h1 h2 := by
  rw [qLt] at *
  have h1 := List.not_lt.1 (of_decide_eq_false h1)
  have h2 := List.not_lt.1 (of_decide_eq_false h2)
  exact decide_eq_false (List.not_lt.2 (List.le_trans h2 h1))
theorem qTot (hn : xs.Nodup) (i j : Fin xs.length) (h1 : ltOf (qCmp xs) i j = false) (h2 : ltOf (qCmp xs) j i = false) : i = j := by
 rw [qLt] at *
 have h1 := List.not_lt.1 (of_decide_eq_false h1)
 have h2 := List.not_lt.1 (of_decide_eq_false h2)
 exact Fin.ext (nodup_at hn i.isLt j.isLt (List.le_antisymm h2 h1))
end
def qLays_ren : Go.Shelf.Ren := ⟨fun | 6 => 54 | 15 => 77 | 14 => 76 | 28 => 108 | 29 => 109 | 20 => 100 | 21 => 101 | 22 => 102 | 23 => 103 | 24 => 104 | 25 => 105 | 26 => 106 | 27 => 107 | 46 => 115 | 47 => 116 | 48 => 117 | 49 => 118 | 50 => 119 | 57 => 128 | n => n, fun | 22 => 28 | 24 => 33 | 25 => 58 | 3 => 3 | 39 => 78 | 0 => 0 | 53 => 97 | 55 => 99 | 4 => 4 | 46 => 91 | 45 => 90 | 50 => 34 | 5 => 5 | 9 => 9 | 66 => 105 | 70 => 109 | 76 => 116 | 77 => 117 | n => n, fun | n => n⟩
theorem qLays : Go.Proofs.SlLaysF.n6 Try.prog qLays_ren := {
 mixed := by kernel_rfl
 f6 := ⟨Try.f54.name, by decide, Try.func54.trans (congrArg some (by kernel_rfl))⟩
 f14 := ⟨Try.f76.name, by decide, Try.func76.trans (congrArg some (by kernel_rfl))⟩
 f15 := Try.func77.trans (congrArg some (by kernel_rfl))
 f20 := ⟨Try.f100.name, by decide, Try.func100.trans (congrArg some (by kernel_rfl))⟩
 f21 := ⟨Try.f101.name, by decide, Try.func101.trans (congrArg some (by kernel_rfl))⟩
 f22 := ⟨Try.f102.name, by decide, Try.func102.trans (congrArg some (by kernel_rfl))⟩
 f23 := ⟨Try.f103.name, by decide, Try.func103.trans (congrArg some (by kernel_rfl))⟩
 f24 := ⟨Try.f104.name, by decide, Try.func104.trans (congrArg some (by kernel_rfl))⟩
 f25 := ⟨Try.f105.name, by decide, Try.func105.trans (congrArg some (by kernel_rfl))⟩
 f26 := ⟨Try.f106.name, by decide, Try.func106.trans (congrArg some (by kernel_rfl))⟩
 f27 := ⟨Try.f107.name, by decide, Try.func107.trans (congrArg some (by kernel_rfl))⟩
 f28 := Try.func108.trans (congrArg some (by kernel_rfl))
 f29 := Try.func109.trans (congrArg some (by kernel_rfl))
 f46 := ⟨Try.f115.name, by decide, Try.func115.trans (congrArg some (by kernel_rfl))⟩
 f47 := Try.func116.trans (congrArg some (by kernel_rfl))
 f48 := Try.func117.trans (congrArg some (by kernel_rfl))
 f49 := ⟨Try.f118.name, by decide, Try.func118.trans (congrArg some (by kernel_rfl))⟩
 f50 := ⟨Try.f119.name, by decide, Try.func119.trans (congrArg some (by kernel_rfl))⟩
 f57 := ⟨Try.f128.name, by decide, Try.func128.trans (congrArg some (by kernel_rfl))⟩
 t0 := Try.underlying0
 a0 := Try.isAgg0
 z0 := Try.sizeOf0
 v0 := Try.zeroValue0
 t3 := Try.underlying3
 a3 := Try.isAgg3
 z3 := Try.sizeOf3
 v3 := Try.zeroValue3
 t4 := Try.underlying4
 a4 := Try.isAgg4
 z4 := Try.sizeOf4
 v4 := Try.zeroValue4
 t5 := Try.underlying5
 a5 := Try.isAgg5
 z5 := Try.sizeOf5
 v5 := Try.zeroValue5
 t9 := Try.underlying9
 a9 := Try.isAgg9
 z9 := Try.sizeOf9
 v9 := Try.zeroValue9
 t22 := Try.underlying28
 a22 := Try.isAgg28
 z22 := Try.sizeOf28
 v22 := Try.zeroValue28
 a24 := Try.isAgg33
 z24 := Try.sizeOf33
 t25 := Try.underlying58
 a25 := Try.isAgg58
 z25 := Try.sizeOf58
 v25 := Try.zeroValue58
 t39 := Try.underlying78
 a39 := Try.isAgg78
 z39 := Try.sizeOf78
 v39 := Try.zeroValue78
 t45 := Try.underlying90
 a45 := Try.isAgg90
 z45 := Try.sizeOf90
 v45 := Try.zeroValue90
 t46 := Try.underlying91
 a46 := Try.isAgg91
 z46 := Try.sizeOf91
 v46 := Try.zeroValue91
 t50 := Try.underlying34
 a50 := Try.isAgg34
 z50 := Try.sizeOf34
 v50 := Try.zeroValue34
 t53 := Try.underlying97
 a53 := Try.isAgg97
 z53 := Try.sizeOf97
 v53 := Try.zeroValue97
 t55 := Try.underlying99
 a55 := Try.isAgg99
 z55 := Try.sizeOf99
 v55 := Try.zeroValue99
 t66 := Try.underlying105
 a66 := Try.isAgg105
 z66 := Try.sizeOf105
 v66 := Try.zeroValue105
 t70 := Try.underlying109
 a70 := Try.isAgg109
 z70 := Try.sizeOf109
 v70 := Try.zeroValue109
 t76 := Try.underlying116
 a76 := Try.isAgg116
 z76 := Try.sizeOf116
 v76 := Try.zeroValue116
 t77 := Try.underlying117
 a77 := Try.isAgg117
 z77 := Try.sizeOf117
 v77 := Try.zeroValue117 }

def slices_SortFunc_int_int.f (l0 : List (List Int)) : Option (List (List Int)) := if l0.isEmpty = false ∧ l0.length ≤ 1048576 ∧ l0.Nodup then some (l0.mergeSort qLe) else none
set_option maxHeartbeats 4000000 in
set_option maxRecDepth 100000 in
theorem slices_SortFunc_int_int.calls (P0_ : Nat → Prop) (u9000_ : Value) (l0 : List (List Int)) (r : List (List Int)) (w0 w : World) (hB : Below w0.heap.size w0 w) (ho0 : Kd.S (Kd.slice 3 (Kd.int .i64)) 33 w w0.heap.size (fun _ => True) u9000_ l0) (h : slices_SortFunc_int_int.f l0 = some r) :
  Calls Try.prog 54 #[u9000_, .func (.func 55) #[] #[]] w fun e w' => e = .returned (.tuple #[]) ∧ Kd.S (Kd.slice 3 (Kd.int .i64)) 33 w' w0.heap.size (fun _ => True) u9000_ r ∧ Below w0.heap.size w0 w' ∧ Kept w w' (fun k_ => some k_ = u9000_.ownBlock) := by
 have H : (if l0.isEmpty = false ∧ l0.length ≤ 1048576 ∧ l0.Nodup then some (l0.mergeSort qLe) else none) = some r := h
 clear h
 by_cases c : l0.isEmpty = false ∧ l0.length ≤ 1048576 ∧ l0.Nodup
 ·rw [if_pos c] at H
  obtain rfl := Option.some.inj H
  obtain ⟨c1, c2, c3⟩ := c
  have hpos : 0 < l0.length := by
   cases l0 with
   | nil => cases c1
   | cons _ _ => simp
  haveI : Inhabited (Fin l0.length) := ⟨⟨0, hpos⟩⟩
  obtain ⟨g, cp, enc, rfl, hg, hlt, h1, hH, hM, hS⟩ := S_sorted rfl ho0 hpos
  have hmap := List.map_mergeSort (r := fun x y : Fin l0.length => !(ltOf (qCmp l0)) y x) (s := qLe) (f := fun i => l0[i]) (l := List.finRange l0.length) (fun a _ b _ => by
   rw [qLt]
   rfl)
  have hfr : (List.finRange l0.length).map (fun i => l0[i]) = l0 := by
   apply List.ext_getElem
   ·simp
   ·intro j h1 h2
    simp
  rw [hfr] at hmap
  have hlays : CmpLays1 Try.prog 55 #[] enc (qCmp l0) g 0 (List.finRange l0.length).toArray.size w := by
   intro m os dk _ x y
   have hgr := grownBy_sorted1 (enc := enc) (w := w) (g := g) (n := m) (os := os) dk
   have hx := Kd.M_step (hM x) (w1 := sortWorld enc w g 0 m dk os) (fun k hk hl => hgr.block k hl (fun e => hk.2 (Option.some.inj e)))
   have hy := Kd.M_step (hM y) (w1 := sortWorld enc w g 0 m dk os) (fun k hk hl => hgr.block k hl (fun e => hk.2 (Option.some.inj e)))
   obtain ⟨A1, c1, e1, hc1, hC1⟩ := (Kd.slice 3 (Kd.int .i64)).K_of_M hx
   obtain ⟨A2, c2, e2, hc2, hC2⟩ := (Kd.slice 3 (Kd.int .i64)).K_of_M hy
   injection e1 with e1
   injection e2 with e2
   rw [e1, e2]
   refine (slices_Compare_int_int.calls _ A1 c1 l0[x] A2 c2 l0[y] _ _ hC1 hc1 hC2 hc2 (compare_tells l0[x] l0[y] hC1.2.1)).mono ?_
   rintro e w' ⟨rfl, ⟨q, rfl⟩⟩
   exact ⟨rfl, q, #[], by rw [Go.Sort.grow_empty]⟩
  have hcon := Any.slices_SortFunc_total qLays enc h1 (qCmp l0) (qSWO l0) 55 #[] g 0 cp (List.finRange l0.length).toArray w (enters_of Try.func55 (by kernel_rfl) rfl) hlays hH hlt (by simp only [List.size_toArray, List.length_finRange]; omega) (qTot l0 c3)
  simp only [List.size_toArray, List.length_finRange] at hcon
  refine hcon.mono ?_
  rintro e w' ⟨rfl, n, os, rfl⟩
  have hgr := grownBy_sorted1 (enc := enc) (w := w) (g := g) (n := n) (os := os) ((List.finRange l0.length).mergeSort fun x y => !(ltOf (qCmp l0)) y x).toArray
  refine ⟨rfl, ?_, ?_, ?_⟩
  ·rw [← hmap]
   exact hS _ (List.mergeSort_perm _ _) n os
  ·exact hB.grown hgr hB.size (fun k hk => by injection hk with hk; subst hk; exact hg)
  ·exact Kept.of_grown hgr (Kept.refl w _) (fun k hk => by injection hk with hk; subst hk; exact Or.inl rfl)
 ·rw [if_neg c] at H
  cases H

/-! ### impl_allQuiddities: function 30 -/
def impl_allQuiddities.l0 : Nat → Int → List (List Int) → List (List (S52)) → Int → Int → Option ((List (List Int)))
 | 0, _, _, _, _, _ => none
 | k + 1, x0, x3, x8, x9, x10 => if x10 < x9 then (if 0 ≤ x10 then (if x10 < (x8.length : Int) then ((impl_quiddity.f k x0 (rd_L2 x8 x10)).bind fun t353 => (if x3.length < 5864062014805 then (impl_allQuiddities.l0 k x0 (x3 ++ [t353]) x8 x9 (wrap64 (x10 + 1))) else (none))) else (none)) else (none)) else ((slices_SortFunc_int_int.f x3).bind fun t359 => (some t359))
def impl_allQuiddities.f (k : Nat) (a0 : Int) : Option ((List (List Int))) := (impl_allTriangulations.f k a0).bind fun t349 => (impl_allQuiddities.l0 k a0 (([] : List (List Int))) t349 (t349.length : Int) 0)
theorem impl_allQuiddities.mono_l : ∀ k, (∀ y0 y1 y2 y3 y4, LeO (impl_allQuiddities.l0 k y0 y1 y2 y3 y4) (impl_allQuiddities.l0 (k + 1) y0 y1 y2 y3 y4))
 | 0 => fun _ _ _ _ _ r h => by simp [impl_allQuiddities.l0] at h
 | k + 1 => by
  have ih0 := impl_allQuiddities.mono_l k
  ·intro y0 y1 y2 y3 y4
   unfold impl_allQuiddities.l0
   repeat' first
   | (with_reducible exact ih0 _ _ _ _ _)
   | (with_reducible exact impl_allTriangulations.mono _ _)
   | (with_reducible exact impl_quiddity.mono _ _ _)
   | (with_reducible exact LeO.refl _)
   | (with_reducible exact LeO.none _)
   | (with_reducible refine LeO.ite ?_ ?_)
   | (with_reducible refine LeO.bind ?_ (fun _ => ?_))
   | exact ih0 _ _ _ _ _
   | exact impl_allTriangulations.mono _ _
   | exact impl_quiddity.mono _ _ _
   | exact LeO.none _
   | refine LeO.ite ?_ ?_
   | refine LeO.bind ?_ (fun _ => ?_)
theorem impl_allQuiddities.mono : ∀ a0 k, LeO (impl_allQuiddities.f k a0) (impl_allQuiddities.f (k + 1) a0) := by
 intro a0 k
 have ih0 := impl_allQuiddities.mono_l k
 unfold impl_allQuiddities.f
 repeat' first
   | (with_reducible exact ih0 _ _ _ _ _)
   | (with_reducible exact impl_allTriangulations.mono _ _)
   | (with_reducible exact impl_quiddity.mono _ _ _)
   | (with_reducible exact LeO.refl _)
   | (with_reducible exact LeO.none _)
   | (with_reducible refine LeO.ite ?_ ?_)
   | (with_reducible refine LeO.bind ?_ (fun _ => ?_))
   | exact ih0 _ _ _ _ _
   | exact impl_allTriangulations.mono _ _
   | exact impl_quiddity.mono _ _ _
   | exact LeO.none _
   | refine LeO.ite ?_ ?_
   | refine LeO.bind ?_ (fun _ => ?_)
set_option maxHeartbeats 8000000 in
set_option maxRecDepth 100000 in
theorem impl_allQuiddities.calls (k : Nat) (a0 : Int) (r : List (List Int)) (w : World) (h : impl_allQuiddities.f k a0 = some r) :
  Calls Try.prog 30 #[.int .i64 a0] w fun e w' => ∃ v0_ : Value, e = .returned (v0_) ∧ Kd.S (Kd.slice 3 (Kd.int .i64)) 33 w' w.heap.size (fun _ => True) v0_ r ∧ Below w.heap.size w w' := by
 have HB := Aside0.mk (Below.refl w.heap.size w)
 have H : ((impl_allTriangulations.f k a0).bind fun t349 => (impl_allQuiddities.l0 k a0 (([] : List (List Int))) t349 (t349.length : Int) 0)) = some r := h
 clear h
 obtain ⟨y346, hy346⟩ : ∃ y_ : List (List Int), y_ = (([] : List (List Int))) := ⟨_, rfl⟩
 replace H : ((impl_allTriangulations.f k a0).bind fun t349 => (impl_allQuiddities.l0 k a0 y346 t349 (t349.length : Int) 0)) = some r := by first | (rw [hy346]; with_reducible exact H) | (have H2_ := (Option.bind_some _ _).symm.trans H; rw [hy346]; with_reducible exact H2_) | (have H2_ := (Option.bind_some _ _).symm.trans H; with_reducible exact H2_) | with_reducible exact H | (rw [hy346]; exact H) | exact H
 have Ny346 := Aside0.mk hy346
 clear hy346
 replace H := Option.bind_eq_some_iff.mp H
 obtain ⟨t349, A20, H⟩ := H
 replace H : (impl_allQuiddities.l0 k a0 y346 t349 (t349.length : Int) 0) = some r := H
 have A2 := Aside0.mk A20
 clear A20
 have H' := Aside0.mk H
 clear H
 go_enter Try.func30, Try.ntmps30
 go_wp2_with (first | ((with_reducible refine gate_dst (N := 6) rfl ?_); refine Kd.S_lit (Kd.slice 3 (Kd.int .i64)) _ 33 ?hg (N := 6) ?hd (xs := ([] : List (List Int))) (inner := []) (ok := fun _ => True) (okp := fun _ => True) ?hr ?hp (fun _ hk => hk) trivial (Below.refl _ _) (Nat.le_refl _) (by simp) ?_; (case hd => rfl); (case hg => rfl); (case hr => first | (go_simp; done) | (go_simp; rfl)); (case hp => exact (Reps.none _ _)); intro v347 w3 ho4 hb hg_ hnew_; clear hg_ hnew_; (first | rw [← Ny346.out] at ho4 | (simp only [Int.reduceToNat] at ho4; rw [← Ny346.out] at ho4)); have n0_ := Aside0.mk (Kd.S_lower ho4 (below_size blw_)); have n1_ := Aside0.mk (below_step blw_ hb); clear HB; have HO348 := n0_; have HB := n1_; clear n0_ n1_; clear hb ho4) | ((with_reducible refine gate_callee (f := 45) rfl ?_); refine goesL_ (some 8) rfl rfl Try.func45 (by kernel_rfl) rfl #[.int .i64 a0] rfl amp_ ?_; (with_reducible refine (impl_allTriangulations.calls k a0 t349 _ A2.out).mono ?_); rintro e w5 ⟨v350, rfl, ho0, hb⟩; refine ⟨_, rfl, ?_⟩; have n0_ := Aside0.mk (Kd.S_below (by (with_reducible repeat (first | apply Kd.S_alloc | apply Kd.S_drewN | apply Kd.S_drew)); exact HO348.out) hb); have n1_ := Aside0.mk (Kd.S_lower ho0 (below_size blw_)); have n2_ := Aside0.mk (below_step blw_ hb); clear HO348; clear HB; have HO348 := n0_; have HO351 := n1_; have HB := n2_; clear n0_ n1_ n2_; (try clear hb); (try clear hb2); (try clear hk); (try clear hi); (try clear ho0); obtain ⟨Ao6, co6, eo6⟩ := Kd.S_slice HO351.out; subst eo6))
 go_loopg [3, 10] k (fun kq v3 v10 w' => ∃ (x3_1 : List (List Int)) (x10_1 : Int), v10 = .int .i64 x10_1 ∧ Aside0 (impl_allQuiddities.l0 kq a0 x3_1 t349 (t349.length : Int) x10_1 = some r) ∧ Aside0 (kq ≤ k) ∧ Aside0 (Kd.S (Kd.slice 3 (Kd.int .i64)) 33 w' w.heap.size (fun _ => True) v3 x3_1) ∧ Aside0 (Kd.S (Kd.slice 52 k52) 41 w' w.heap.size (fun _ => True) (.slice Ao6 t349.length co6) t349) ∧ Aside0 (Below w.heap.size w w'))
 case atStart => exact ⟨(y346), (0), rsd_, H', ⟨Nat.le_refl _⟩, ⟨by (with_reducible repeat (first | apply Kd.S_alloc | apply Kd.S_drewN | apply Kd.S_drew)); exact HO348.out⟩, ⟨by (with_reducible repeat (first | apply Kd.S_alloc | apply Kd.S_drewN | apply Kd.S_drew)); exact HO351.out⟩, ⟨blw_⟩⟩
 case round =>
  clear H'
  try clear p2
  try clear c3
  try clear c4
  try clear HO_3
  try clear HO_8
  obtain ⟨x3_1, x10_1, rfl, HA, HK1, HO_3, HO_8, HB⟩ := hrel
  cases gk with
  | zero => exact absurd HA.out (by simp [impl_allQuiddities.l0])
  | succ k1 =>
   have H := HA.out
   clear HA
   simp only [impl_allQuiddities.l0] at H
   by_cases c7 : x10_1 < (t349.length : Int)
   ·rw [if_pos c7] at H
    have c7b0 : decide (x10_1 < (t349.length : Int)) = true := decide_eq_true c7
    clear c7
    by_cases c8 : 0 ≤ x10_1
    case neg=>rw [if_neg c8] at H;exact absurd H (by simp)
    rw [if_pos c8] at H
    have c8b0 : decide (0 ≤ x10_1) = true := decide_eq_true c8
    clear c8
    by_cases c9 : x10_1 < (t349.length : Int)
    case neg=>rw [if_neg c9] at H;exact absurd H (by simp)
    rw [if_pos c9] at H
    have c9b0 : decide (x10_1 < (t349.length : Int)) = true := decide_eq_true c9
    clear c9
    replace H := Option.bind_eq_some_iff.mp H
    obtain ⟨t353, A100, H⟩ := H
    replace H : (if x3_1.length < 5864062014805 then (impl_allQuiddities.l0 k1 a0 (x3_1 ++ [t353]) t349 (t349.length : Int) (wrap64 (x10_1 + 1))) else (none)) = some r := H
    have A10 := Aside0.mk A100
    clear A100
    by_cases c11 : x3_1.length < 5864062014805
    case neg=>rw [if_neg c11] at H;exact absurd H (by simp)
    rw [if_pos c11] at H
    have LMc11 := Aside0.mk c11
    clear c11
    obtain ⟨y356, hy356⟩ : ∃ y_ : List (List Int), y_ = (x3_1 ++ [t353]) := ⟨_, rfl⟩
    replace H : (impl_allQuiddities.l0 k1 a0 y356 t349 (t349.length : Int) (wrap64 (x10_1 + 1))) = some r := by first | (rw [hy356]; with_reducible exact H) | (have H2_ := (Option.bind_some _ _).symm.trans H; rw [hy356]; with_reducible exact H2_) | (have H2_ := (Option.bind_some _ _).symm.trans H; with_reducible exact H2_) | with_reducible exact H | (rw [hy356]; exact H) | exact H
    have Ny356 := Aside0.mk hy356
    clear hy356
    have H' := Aside0.mk H
    clear H
    have p352 : 0 ≤ (x10_1 : Int) := odt_
    have q352 : x10_1 < (t349.length : Int) := odt_
    obtain ⟨ad352, A352_0, c352_0, e352, hx352_0, hl352_0, hi352_0⟩ := at_L2 (Kd.S_reads' HO_8.out).2.2 x10_1 p352 q352
    cases e352
    obtain ⟨ce352, hce352, hMe352, hcc352⟩ := Kd.S_get HO_8.out [] x10_1 p352 (by first | exact q352 | exact odt_ | (have e_ := (Kd.S_reads' HO_8.out).1; omega))
    obtain ⟨ve352_0, rfl, ge352_0⟩ := hMe352
    have hv352_0 := hcc352 0 _ rfl
    rw [Nat.add_zero, show ((Kd.slice 52 k52)).sz = 1 from rfl, Nat.mul_one] at hv352_0
    replace hv352_0 := Option.some.inj (hv352_0.symm.trans hx352_0)
    rw [hv352_0] at ge352_0
    have HL352_0 := Aside0.mk (show Kd.R k52 52 _ _ _ _ (rd_L2 t349 x10_1) from ge352_0)
    clear hv352_0 ge352_0
    clear hcc352 hce352
    have HR352_0 := Aside0.mk hi352_0
    have HC352_0 := Aside0.mk hl352_0
    clear hi352_0 hl352_0
    replace p352 := eq_true p352
    replace q352 := eq_true q352
    go_wp2_with (first | ((with_reducible refine gate_callee (f := 53) rfl ?_); refine goesL_ (some 17) rfl rfl Try.func53 (by kernel_rfl) rfl #[.int .i64 a0, .slice A352_0 (rd_L2 t349 x10_1).length c352_0] rfl amp_ ?_; (with_reducible refine (impl_quiddity.calls k1 a0 _ _ (rd_L2 t349 x10_1) t353 _ ?side1 ?side2 A10.out).mono ?_); (case side1 => repeat (first | exact (by repeat (first | (with_reducible exact HR352_0.out) | (with_reducible refine Kd.C_alloc ?_ _) | (with_reducible refine Kd.C_drewN ?_ _) | (with_reducible refine Kd.C_drew ?_) | exact HR352_0.out)) | (with_reducible refine Kd.C_alloc ?_ _) | (with_reducible refine Kd.C_drewN ?_ _) | (with_reducible refine Kd.C_drew ?_))); (case side2 => exact HC352_0.out); rintro e w12 ⟨v354, rfl, ho0, hb⟩; refine ⟨_, rfl, ?_⟩; have n0_ := Aside0.mk (Kd.S_elder' (by (with_reducible repeat (first | apply Kd.S_alloc | apply Kd.S_drewN | apply Kd.S_drew)); exact HO_3.out) (Kd.R_base ho0) hb); have n1_ := Aside0.mk (Kd.S_below (by (with_reducible repeat (first | apply Kd.S_alloc | apply Kd.S_drewN | apply Kd.S_drew)); exact HO_8.out) hb); have n2_ := Aside0.mk (Kd.R_below (ra_ HL352_0.out) hb); have n3_ := Aside0.mk (Kd.R_lower ho0 (below_size blw_)); have n4_ := Aside0.mk (Kd.C_below (by repeat (first | (with_reducible exact HR352_0.out) | (with_reducible refine Kd.C_alloc ?_ _) | (with_reducible refine Kd.C_drewN ?_ _) | (with_reducible refine Kd.C_drew ?_) | exact HR352_0.out)) hb); have n5_ := Aside0.mk (below_step blw_ hb); clear HO_3; clear HO_8; clear HL352_0; clear HR352_0; clear HB; have HO_3 := n0_; have HO_8 := n1_; have HL352_0 := n2_; have HO355 := n3_; have HR352_0 := n4_; have HB := n5_; clear n0_ n1_ n2_ n3_ n4_ n5_; (try clear hb); (try clear hb2); (try clear hk); (try clear hi); (try clear ho0); obtain ⟨Ao14, co14, eo14⟩ := Kd.R_slice HO355.out; subst eo14) | ((with_reducible refine gate_builtin (b := .append) (xs := #[.tmp 14, .tmp 18]) rfl ?_); at_builtin; refine Kd.S_append (Kd.slice 3 (Kd.int .i64)) (w0 := w) w.heap.size rfl (.tmp 14) (.tmp 18) 28 33 (.slice none 0 0) 24 rfl Try.underlying28 info33 rfl (by decide) (by omega) u3 x3_1 t353 [.slice Ao14 t353.length co14] (fun _ => True) (fun k_ => some k_ = (.slice Ao14 t353.length co14 : Value).ownBlock) rfl rfl ?aP (fun k_ hk_ => ((Kd.R_mono (ok' := fun k_ => ((fun _ => True)) k_ ∧ some k_ ≠ (u3 : Value).ownBlock) (Kd.R_apart' (HO355.out) (Kd.S_typed HO_3.out) (by decide)) (fun k_ hk => ⟨trivial, hk.2⟩))).1 k_ hk_.symm) ?aF ?aO ?aB ?aS ?aL ?_; (case aP => exact Kd.M_row (Kd.R_mono (Kd.R_tight rfl (Kd.R_mono (ok' := fun k_ => ((fun _ => True)) k_ ∧ some k_ ≠ (u3 : Value).ownBlock) (Kd.R_apart' (HO355.out) (Kd.S_typed HO_3.out) (by decide)) (fun k_ hk => ⟨trivial, hk.2⟩))) (fun _ h_ => h_))); (case aB => exact blw_); (case aF => exact (fun _ _ => trivial)); (case aO => exact (by (with_reducible repeat (first | apply Kd.S_alloc | apply Kd.S_drewN | apply Kd.S_drew)); exact Kd.S_mono HO_3.out (fun k_ hk => ⟨trivial, fun e_ => hk.2 e_⟩))); (case aS => exact (below_size blw_)); (case aL => have := LMc11.out; omega); intro v357 w13 ho hb hg hat; rw [← Ny356.out] at ho; have n0_ := Aside0.mk (Kd.S_over' (by (with_reducible repeat (first | apply Kd.S_alloc | apply Kd.S_drewN | apply Kd.S_drew)); exact HO_8.out) (Kd.S_typed (by (with_reducible repeat (first | apply Kd.S_alloc | apply Kd.S_drewN | apply Kd.S_drew)); exact HO_3.out)) (by decide) hg); have n1_ := Aside0.mk (Kd.R_over' (ra_ HL352_0.out) (Kd.S_typed (by (with_reducible repeat (first | apply Kd.S_alloc | apply Kd.S_drewN | apply Kd.S_drew)); exact HO_3.out)) (by decide) hg); have n2_ := Aside0.mk (hb); have n3_ := Aside0.mk (ho); clear HO_8; clear HL352_0; clear HB; clear HO_3; clear HO355; have HO_8 := n0_; have HL352_0 := n1_; have HB := n2_; have HO358 := n3_; clear n0_ n1_ n2_ n3_; clear ho hb hg hat))
    go_roundg k1
    case measure => have := HK1.out; omega
    case rel => exact ⟨(y356), (wrap64 (x10_1 + 1)), rsd_, H', ⟨by have := HK1.out; omega⟩, ⟨by (with_reducible repeat (first | apply Kd.S_alloc | apply Kd.S_drewN | apply Kd.S_drew)); exact HO358.out⟩, ⟨by (with_reducible repeat (first | apply Kd.S_alloc | apply Kd.S_drewN | apply Kd.S_drew)); exact HO_8.out⟩, ⟨blw_⟩⟩
   ·rw [if_neg c7] at H
    have c7b0 : decide (x10_1 < (t349.length : Int)) = false := decide_eq_false c7
    clear c7
    replace H := Option.bind_eq_some_iff.mp H
    obtain ⟨t359, A150, H⟩ := H
    replace H : (some t359) = some r := H
    have A15 := Aside0.mk A150
    clear A150
    obtain rfl := Option.some.inj H
    obtain ⟨Ao16, co16, eo16⟩ := Kd.S_slice HO_3.out
    subst eo16
    go_wp2_with (first | ((with_reducible refine gate_callee (f := 54) rfl ?_); refine goesL_ (some 22) rfl rfl Try.func54 (by kernel_rfl) rfl #[.slice Ao16 x3_1.length co16, .func (.func 55) #[] #[]] rfl amp_ ?_; (with_reducible refine (slices_SortFunc_int_int.calls (fun k_ => some k_ = (.slice Ao16 x3_1.length co16 : Value).ownBlock) (.slice Ao16 x3_1.length co16) x3_1  t359 w _ ?side1 ?side2 A15.out).mono ?_); (case side1 => repeat (first | (with_reducible first | exact HB.out | apply below_alloc | apply pw_below_drewN | apply below_drew1) | exact HB.out)); (case side2 => exact HO_3.out); rintro e w17 ⟨rfl, hy0, hb, hkp⟩; refine ⟨_, rfl, ?_⟩; have n0_ := Aside0.mk hy0; have n1_ := Aside0.mk (Kd.S_mono (ok' := fun k_ => True) (Kd.S_keptB ((Kd.S_apart' HO_8.out (Kd.S_typed HO_3.out) (by decide))) hkp (fun k_ hk_ hs_ => (hk_.2) hs_)) (fun k_ hk_ => trivial)); have n2_ := Aside0.mk (hb); clear HO_3; clear HO_8; clear HB; have HO_3 := n0_; have HO_8 := n1_; have HB := n2_; clear n0_ n1_ n2_; (try clear hb); (try clear hkp); (try clear hy0)))
    go_ret
    exact ⟨_, by first | rfl | (simp [errW_none, errW_some] <;> rfl) | (simp [*, errW_none, errW_some] <;> rfl), by (with_reducible repeat (first | apply Kd.S_alloc | apply Kd.S_drewN | apply Kd.S_drew)); exact HO_3.out, blw_⟩

/-! ### slices_Equal_int_int: function 38 -/
def slices_Equal_int_int.l0 : Nat → List Int → List Int → Int → Int → Option (Bool)
 | 0, _, _, _, _ => none
 | k + 1, x0, x1, x12, x13 => if x13 < x12 then (if 0 ≤ x13 then (if x13 < (x0.length : Int) then (if x13 < (x1.length : Int) then (if (rd x0 x13) = (rd x1 x13) then (slices_Equal_int_int.l0 k x0 x1 x12 (wrap64 (x13 + 1))) else (some false)) else (none)) else (none)) else (none)) else (some true)
def slices_Equal_int_int.f (k : Nat) (l0 : List Int) (l1 : List Int) : Option (Bool) := if (l0.length : Int) = (l1.length : Int) then (slices_Equal_int_int.l0 k l0 l1 (l0.length : Int) 0) else (some false)
theorem slices_Equal_int_int.mono_l : ∀ k, (∀ y0 y1 y2 y3, LeO (slices_Equal_int_int.l0 k y0 y1 y2 y3) (slices_Equal_int_int.l0 (k + 1) y0 y1 y2 y3))
 | 0 => fun _ _ _ _ r h => by simp [slices_Equal_int_int.l0] at h
 | k + 1 => by
  have ih0 := slices_Equal_int_int.mono_l k
  ·intro y0 y1 y2 y3
   unfold slices_Equal_int_int.l0
   repeat' first
   | (with_reducible exact ih0 _ _ _ _)
   | (with_reducible exact LeO.refl _)
   | (with_reducible exact LeO.none _)
   | (with_reducible refine LeO.ite ?_ ?_)
   | (with_reducible refine LeO.bind ?_ (fun _ => ?_))
   | exact ih0 _ _ _ _
   | exact LeO.none _
   | refine LeO.ite ?_ ?_
   | refine LeO.bind ?_ (fun _ => ?_)
theorem slices_Equal_int_int.mono : ∀ a0 a1 k, LeO (slices_Equal_int_int.f k a0 a1) (slices_Equal_int_int.f (k + 1) a0 a1) := by
 intro a0 a1 k
 have ih0 := slices_Equal_int_int.mono_l k
 unfold slices_Equal_int_int.f
 repeat' first
   | (with_reducible exact ih0 _ _ _ _)
   | (with_reducible exact LeO.refl _)
   | (with_reducible exact LeO.none _)
   | (with_reducible refine LeO.ite ?_ ?_)
   | (with_reducible refine LeO.bind ?_ (fun _ => ?_))
   | exact ih0 _ _ _ _
   | exact LeO.none _
   | refine LeO.ite ?_ ?_
   | refine LeO.bind ?_ (fun _ => ?_)
set_option maxHeartbeats 8000000 in
set_option maxRecDepth 100000 in
theorem slices_Equal_int_int.calls (k : Nat) (A0 : Option Addr) (c0 : Nat) (l0 : List Int) (A1 : Option Addr) (c1 : Nat) (l1 : List Int) (r : Bool) (w : World) (hr0 : Kd.C (Kd.int .i64) w A0 l0.length l0) (hc0 : l0.length ≤ c0) (hr1 : Kd.C (Kd.int .i64) w A1 l1.length l1) (hc1 : l1.length ≤ c1) (h : slices_Equal_int_int.f k l0 l1 = some r) :
  Calls Try.prog 38 #[.slice A0 l0.length c0, .slice A1 l1.length c1] w fun e w' => e = .returned (.bool r) ∧ Drawn0 w w' := by
 have HR0 := Aside0.mk hr0
 have HC0 := Aside0.mk hc0
 clear hr0 hc0
 have HR1 := Aside0.mk hr1
 have HC1 := Aside0.mk hc1
 clear hr1 hc1
 have H : (if (l0.length : Int) = (l1.length : Int) then (slices_Equal_int_int.l0 k l0 l1 (l0.length : Int) 0) else (some false)) = some r := h
 clear h
 by_cases c3 : (l0.length : Int) = (l1.length : Int)
 ·rw [if_pos c3] at H
  have c3b0 : ((l0.length : Int) == (l1.length : Int)) = true := beq_iff_eq.mpr c3
  have c3b1 : ((l0.length : Int) != (l1.length : Int)) = false := bne_eq_false_iff_eq.mpr c3
  have c3b2 : (l0.length == l1.length) = true := by first | simpa using c3 | (simp at c3 ⊢; omega)
  clear c3
  have H' := Aside0.mk H
  clear H
  go_enter Try.func38, Try.ntmps38
  go_wp2
  repeat (go_quiet (fail); try go_wp2)
  go_loopg [13] k (fun kq v13 w' => ∃ (x13_1 : Int), v13 = .int .i64 x13_1 ∧ Aside0 (slices_Equal_int_int.l0 kq l0 l1 (l0.length : Int) x13_1 = some r) ∧ Aside0 (kq ≤ k) ∧ Drawn0 w w')
  case atStart => exact ⟨(0), rsd_, H', ⟨Nat.le_refl _⟩, by repeat (first | exact Drawn0.refl _ | apply Drawn0.step)⟩
  case round =>
   clear H'
   try clear c1
   try clear p2
   try clear c3
   try clear c3b0
   try clear c3b1
   try clear c3b2
   obtain ⟨x13_1, rfl, HA, HK1, ⟨m1, rfl⟩⟩ := hrel
   cases gk with
   | zero => exact absurd HA.out (by simp [slices_Equal_int_int.l0])
   | succ k1 =>
    have H := HA.out
    clear HA
    simp only [slices_Equal_int_int.l0] at H
    by_cases c4 : x13_1 < (l0.length : Int)
    ·rw [if_pos c4] at H
     have c4b0 : decide (x13_1 < (l0.length : Int)) = true := decide_eq_true c4
     clear c4
     by_cases c5 : 0 ≤ x13_1
     case neg=>rw [if_neg c5] at H;exact absurd H (by simp)
     rw [if_pos c5] at H
     have c5b0 : decide (0 ≤ x13_1) = true := decide_eq_true c5
     clear c5
     by_cases c6 : x13_1 < (l0.length : Int)
     case neg=>rw [if_neg c6] at H;exact absurd H (by simp)
     rw [if_pos c6] at H
     have c6b0 : decide (x13_1 < (l0.length : Int)) = true := decide_eq_true c6
     clear c6
     by_cases c7 : x13_1 < (l1.length : Int)
     case neg=>rw [if_neg c7] at H;exact absurd H (by simp)
     rw [if_pos c7] at H
     have c7b0 : decide (x13_1 < (l1.length : Int)) = true := decide_eq_true c7
     clear c7
     by_cases c8 : (rd l0 x13_1) = (rd l1 x13_1)
     ·rw [if_pos c8] at H
      have c8b0 : ((rd l0 x13_1) == (rd l1 x13_1)) = true := beq_iff_eq.mpr c8
      have c8b1 : ((rd l0 x13_1) != (rd l1 x13_1)) = false := bne_eq_false_iff_eq.mpr c8
      clear c8
      have H' := Aside0.mk H
      clear H
      have p360 : 0 ≤ (x13_1 : Int) := odt_
      have q360 : x13_1 < (l0.length : Int) := odt_
      obtain ⟨ad360, e360, hx360_0⟩ := Kd.at_int HR0.out x13_1 p360 q360
      cases e360
      replace p360 := eq_true p360
      replace q360 := eq_true q360
      have p361 : 0 ≤ (x13_1 : Int) := odt_
      have q361 : x13_1 < (l1.length : Int) := odt_
      obtain ⟨ad361, e361, hx361_0⟩ := Kd.at_int HR1.out x13_1 p361 q361
      cases e361
      replace p361 := eq_true p361
      replace q361 := eq_true q361
      go_wp2
      repeat (go_quiet (fail); try go_wp2)
      go_roundg k1
      case measure => have := HK1.out; omega
      case rel => exact ⟨(wrap64 (x13_1 + 1)), rsd_, H', ⟨by have := HK1.out; omega⟩, by repeat (first | exact Drawn0.refl _ | apply Drawn0.step)⟩
     ·rw [if_neg c8] at H
      have c8b0 : ((rd l0 x13_1) == (rd l1 x13_1)) = false := beq_eq_false_iff_ne.mpr c8
      have c8b1 : ((rd l0 x13_1) != (rd l1 x13_1)) = true := bne_iff_ne.mpr c8
      obtain rfl := Option.some.inj H
      have p360 : 0 ≤ (x13_1 : Int) := odt_
      have q360 : x13_1 < (l0.length : Int) := odt_
      obtain ⟨ad360, e360, hx360_0⟩ := Kd.at_int HR0.out x13_1 p360 q360
      cases e360
      replace p360 := eq_true p360
      replace q360 := eq_true q360
      have p361 : 0 ≤ (x13_1 : Int) := odt_
      have q361 : x13_1 < (l1.length : Int) := odt_
      obtain ⟨ad361, e361, hx361_0⟩ := Kd.at_int HR1.out x13_1 p361 q361
      cases e361
      replace p361 := eq_true p361
      replace q361 := eq_true q361
      go_wp2
      repeat (go_quiet (fail); try go_wp2)
      go_ret
      exact dr_
    ·rw [if_neg c4] at H
     have c4b0 : decide (x13_1 < (l0.length : Int)) = false := decide_eq_false c4
     clear c4
     obtain rfl := Option.some.inj H
     go_wp2
     repeat (go_quiet (fail); try go_wp2)
     go_ret
     exact dr_
 ·rw [if_neg c3] at H
  have c3b0 : ((l0.length : Int) == (l1.length : Int)) = false := beq_eq_false_iff_ne.mpr c3
  have c3b1 : ((l0.length : Int) != (l1.length : Int)) = true := bne_iff_ne.mpr c3
  have c3b2 : (l0.length == l1.length) = false := by first | simpa using c3 | (simp at c3 ⊢; omega)
  obtain rfl := Option.some.inj H
  go_enter Try.func38, Try.ntmps38
  go_wp2
  repeat (go_quiet (fail); try go_wp2)
  go_ret
  exact dr_

/-! ### cmp_Or_int: function 98 -/
def cmp_Or_int.l0 : Nat → Int → List Int → Int → Int → Option (Int)
 | 0, _, _, _, _ => none
 | k + 1, x3, x6, x7, x8 => if x8 < x7 then (if 0 ≤ x8 then (if x8 < (x6.length : Int) then (if (rd x6 x8) = x3 then (cmp_Or_int.l0 k x3 x6 x7 (wrap64 (x8 + 1))) else (some (rd x6 x8))) else (none)) else (none)) else (some x3)
def cmp_Or_int.f (k : Nat) (l0 : List Int) : Option (Int) := cmp_Or_int.l0 k 0 l0 (l0.length : Int) 0
theorem cmp_Or_int.mono_l : ∀ k, (∀ y0 y1 y2 y3, LeO (cmp_Or_int.l0 k y0 y1 y2 y3) (cmp_Or_int.l0 (k + 1) y0 y1 y2 y3))
 | 0 => fun _ _ _ _ r h => by simp [cmp_Or_int.l0] at h
 | k + 1 => by
  have ih0 := cmp_Or_int.mono_l k
  ·intro y0 y1 y2 y3
   unfold cmp_Or_int.l0
   repeat' first
   | (with_reducible exact ih0 _ _ _ _)
   | (with_reducible exact LeO.refl _)
   | (with_reducible exact LeO.none _)
   | (with_reducible refine LeO.ite ?_ ?_)
   | (with_reducible refine LeO.bind ?_ (fun _ => ?_))
   | exact ih0 _ _ _ _
   | exact LeO.none _
   | refine LeO.ite ?_ ?_
   | refine LeO.bind ?_ (fun _ => ?_)
theorem cmp_Or_int.mono : ∀ a0 k, LeO (cmp_Or_int.f k a0) (cmp_Or_int.f (k + 1) a0) := by
 intro a0 k
 have ih0 := cmp_Or_int.mono_l k
 unfold cmp_Or_int.f
 repeat' first
   | (with_reducible exact ih0 _ _ _ _)
   | (with_reducible exact LeO.refl _)
   | (with_reducible exact LeO.none _)
   | (with_reducible refine LeO.ite ?_ ?_)
   | (with_reducible refine LeO.bind ?_ (fun _ => ?_))
   | exact ih0 _ _ _ _
   | exact LeO.none _
   | refine LeO.ite ?_ ?_
   | refine LeO.bind ?_ (fun _ => ?_)
set_option maxHeartbeats 8000000 in
set_option maxRecDepth 100000 in
theorem cmp_Or_int.calls (k : Nat) (A0 : Option Addr) (c0 : Nat) (l0 : List Int) (r : Int) (w : World) (hr0 : Kd.C (Kd.int .i64) w A0 l0.length l0) (hc0 : l0.length ≤ c0) (h : cmp_Or_int.f k l0 = some r) :
  Calls Try.prog 98 #[.slice A0 l0.length c0] w fun e w' => e = .returned (.int .i64 r) ∧ Drawn0 w w' := by
 have HR0 := Aside0.mk hr0
 have HC0 := Aside0.mk hc0
 clear hr0 hc0
 have H : (cmp_Or_int.l0 k 0 l0 (l0.length : Int) 0) = some r := h
 clear h
 have H' := Aside0.mk H
 clear H
 go_enter Try.func98, Try.ntmps98
 go_wp2
 go_loopg [8] k (fun kq v8 w' => ∃ (x8_1 : Int), v8 = .int .i64 x8_1 ∧ Aside0 (cmp_Or_int.l0 kq 0 l0 (l0.length : Int) x8_1 = some r) ∧ Aside0 (kq ≤ k) ∧ Drawn0 w w')
 case atStart => exact ⟨(0), rsd_, H', ⟨Nat.le_refl _⟩, by repeat (first | exact Drawn0.refl _ | apply Drawn0.step)⟩
 case round =>
  clear H'
  obtain ⟨x8_1, rfl, HA, HK1, ⟨m1, rfl⟩⟩ := hrel
  cases gk with
  | zero => exact absurd HA.out (by simp [cmp_Or_int.l0])
  | succ k1 =>
   have H := HA.out
   clear HA
   simp only [cmp_Or_int.l0] at H
   by_cases c2 : x8_1 < (l0.length : Int)
   ·rw [if_pos c2] at H
    have c2b0 : decide (x8_1 < (l0.length : Int)) = true := decide_eq_true c2
    clear c2
    by_cases c3 : 0 ≤ x8_1
    case neg=>rw [if_neg c3] at H;exact absurd H (by simp)
    rw [if_pos c3] at H
    have c3b0 : decide (0 ≤ x8_1) = true := decide_eq_true c3
    clear c3
    by_cases c4 : x8_1 < (l0.length : Int)
    case neg=>rw [if_neg c4] at H;exact absurd H (by simp)
    rw [if_pos c4] at H
    have c4b0 : decide (x8_1 < (l0.length : Int)) = true := decide_eq_true c4
    clear c4
    by_cases c5 : (rd l0 x8_1) = 0
    ·rw [if_pos c5] at H
     have c5b0 : ((rd l0 x8_1) == 0) = true := beq_iff_eq.mpr c5
     have c5b1 : ((rd l0 x8_1) != 0) = false := bne_eq_false_iff_eq.mpr c5
     clear c5
     have H' := Aside0.mk H
     clear H
     have p362 : 0 ≤ (x8_1 : Int) := odt_
     have q362 : x8_1 < (l0.length : Int) := odt_
     obtain ⟨ad362, e362, hx362_0⟩ := Kd.at_int HR0.out x8_1 p362 q362
     cases e362
     replace p362 := eq_true p362
     replace q362 := eq_true q362
     go_wp2
     go_roundg k1
     case measure => have := HK1.out; omega
     case rel => exact ⟨(wrap64 (x8_1 + 1)), rsd_, H', ⟨by have := HK1.out; omega⟩, by repeat (first | exact Drawn0.refl _ | apply Drawn0.step)⟩
    ·rw [if_neg c5] at H
     have c5b0 : ((rd l0 x8_1) == 0) = false := beq_eq_false_iff_ne.mpr c5
     have c5b1 : ((rd l0 x8_1) != 0) = true := bne_iff_ne.mpr c5
     obtain rfl := Option.some.inj H
     have p362 : 0 ≤ (x8_1 : Int) := odt_
     have q362 : x8_1 < (l0.length : Int) := odt_
     obtain ⟨ad362, e362, hx362_0⟩ := Kd.at_int HR0.out x8_1 p362 q362
     cases e362
     replace p362 := eq_true p362
     replace q362 := eq_true q362
     go_wp2
     go_ret
     exact dr_
   ·rw [if_neg c2] at H
    have c2b0 : decide (x8_1 < (l0.length : Int)) = false := decide_eq_false c2
    clear c2
    obtain rfl := Option.some.inj H
    go_wp2
    go_ret
    exact dr_

end Go.Proofs.Ytgblginphicacaa.PFnExactRankOfQuiddity
