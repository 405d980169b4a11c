-- WRITTEN BY A PROGRAM OF THIS WORK (wip/tools/ppatch.py) for this claim.
import Derived.Test.YtnjejmfnacpdoaaPFnExactNextFareyx0
import Derived.Test.YtnjejmfnacpdoaaPFnExactNextFareyx1
import Derived.Test.YtnjejmfnacpdoaaPFnExactNextFareyx3
namespace Go.Proofs.Ytnjejmfnacpdoaa.PFnExactNextFarey
open Go.RowKit Go.Proofs.YtnjejmfnacpdoaaW.PrintWords Go.Proofs.YtnjejmfnacpdoaaW.PrintLast Go.Proofs.YtnjejmfnacpdoaaW.PrintMore
attribute [local go_sem] max2_int min2_int max_two min_two max_three min_three max_four min_four   -- for this text's walks alone
set_option linter.unusedVariables false
set_option linter.unusedSimpArgs false

attribute [local go_sem high] eqA32
/-! ### impl_Fraction_93: function 93 -/
-- needs: nothing (a row of k cells an element, sorted by the library: from Kd.R to HoldsK and back; imports Derived.Shelf.SlSortCmp.NoneTotal)
section
variable {α β : Type} [Inhabited α] {k : Nat} {enc : α → List Value} {val : α → β} {d : Kd β} {e : Nat}
/-- The cells of a row that is held, one by one. -/
theorem row_cell (hsz : d.sz = k) (hM : ∀ {w base ok x cs}, d.M w base ok (val x) cs → cs = enc x) {w : World} {base : Nat} {ok : Nat → Prop} {ys : List α} {inner : List Value} (hr : Reps (d.M w base ok) d.sz (ys.map val) inner) (t : Nat) (ht : t < ys.length * k) : inner[t]? = some (enc ys.toArray[t / k]!)[t % k]! := by
 have k0 : 0 < k := by
  rcases Nat.eq_zero_or_pos k with h | h
  ·subst h; omega
  ·exact h
 have hj : t / k < ys.length := by rw [Nat.div_lt_iff_lt_mul k0]; exact ht
 have hc : t % k < k := Nat.mod_lt _ k0
 have h1 := hM (hr.2 (t / k) (val ys[t / k]) (by simp [hj]))
 have hlen : (enc ys[t / k]).length = k := by
  rw [← h1, List.length_take, List.length_drop, hr.1, hsz, List.length_map]
  have := Nat.mul_le_mul_right k (show t / k + 1 ≤ ys.length from hj)
  rw [Nat.add_mul, Nat.one_mul] at this
  omega
 have h2 : (enc ys[t / k])[t % k]? = inner[t / k * k + t % k]? := by
  rw [← h1, hsz, List.getElem?_take_of_lt hc, List.getElem?_drop]
 rw [Nat.div_add_mod' t k] at h2
 rw [← h2]
 simp [hj, hlen, hc]
theorem holdsK_of (hsz : d.sz = k) (hM : ∀ {w base ok x cs}, d.M w base ok (val x) cs → cs = enc x) {w : World} {base g : Nat} {ok : Nat → Prop} {ys : List α} {cur : Array Value} (hb : w.heap[g]? = some (.cells cur e (0, 0))) (hr : Reps (d.M w base ok) d.sz (ys.map val) (cur.toList.take (ys.length * d.sz))) : Go.Sort.HoldsK enc k w g 0 ys.toArray := by
 intro t h
 have h' : t < ys.length * k := by simpa using h
 have hc := row_cell hsz hM hr t h'
 rw [List.getElem?_take_of_lt (by rw [hsz]; exact h'), Array.getElem?_toList] at hc
 refine ⟨?_, by simp [World.frozen?, hb]⟩
 rw [Go.Sort.get_flatK _ _ _ _ (by simpa using h)]
 simp only [World.cell?, hb, Nat.zero_add, id]
 simp only [Option.isSome_none, Bool.false_eq_true, if_false]
 exact hc
theorem heap_sortedK {w : World} {g n : Nat} {os : Array Obj} {cur : Array Value} {fr : Nat × Nat} (D : Array α) (hb : w.heap[g]? = some (.cells cur e fr)) :
  (sortWorldK enc k w g 0 n D os).heap[g]? = some (.cells (Go.Sort.putCells id 0 (Go.Sort.flatK enc k D) cur) e fr) := by
 have hg : g < w.heap.size := (Array.getElem?_eq_some_iff.1 hb).1
 unfold sortWorldK Go.Sort.putRowK
 rw [Go.Sort.heap_grow_old _ _ (by simpa using hg)]
 simp [Go.Sort.putRow, Go.Sort.mapBlock, Go.Sort.ahead, Array.getElem?_modify, hb, Go.Sort.onCells]
theorem grownBy_sortedK {w : World} {g n : Nat} {os : Array Obj} (D : Array α) : w.grownBy (sortWorldK enc k w g 0 n D os) (some g) := by
 unfold sortWorldK Go.Sort.putRowK
 refine ⟨rfl, rfl, rfl, by simp, fun j hk hne => ?_⟩
 rw [Go.Sort.heap_grow_old _ _ (by simpa using hk)]
 have : g ≠ j := fun e => hne (by rw [e])
 simp [Go.Sort.putRow, Go.Sort.mapBlock, Go.Sort.ahead, Array.getElem?_modify, this]
theorem take_putCellsK (cur : Array Value) (F : Array Value) (h : F.size ≤ cur.size) : (Go.Sort.putCells id 0 F cur).toList.take F.size = F.toList := by
 apply List.ext_getElem?
 intro j
 by_cases hj : j < F.size
 ·rw [List.getElem?_take_of_lt hj, Array.getElem?_toList]
  simp [Go.Sort.putCells, hj, show j < cur.size by omega]
 ·rw [List.getElem?_take_eq_none (by omega), List.getElem?_eq_none (by simp; omega)]
theorem flat_take (hlen : ∀ x, (enc x).length = k) (ys : List α) (j : Nat) (p : α) (hp : ys[j]? = some p) : ((Go.Sort.flatK enc k ys.toArray).toList.drop (j * k)).take k = enc p := by
 obtain ⟨hj, rfl⟩ := List.getElem?_eq_some_iff.1 hp
 have h2 := Nat.mul_le_mul_right k (show j + 1 ≤ ys.length from hj)
 rw [Nat.add_mul, Nat.one_mul] at h2
 apply List.ext_getElem?
 intro c
 by_cases hc : c < k
 ·have hk : 0 < k := by omega
  rw [List.getElem?_take_of_lt hc, List.getElem?_drop, Array.getElem?_toList]
  have hlt : j * k + c < (Go.Sort.flatK enc k ys.toArray).size := by simp; omega
  rw [Array.getElem?_eq_getElem hlt, ← getElem!_pos (Go.Sort.flatK enc k ys.toArray) (j * k + c) hlt, Go.Sort.get_flatK _ _ _ _ (by simpa using hlt)]
  have e1 : (j * k + c) / k = j := by rw [Nat.mul_comm, Nat.mul_add_div hk, Nat.div_eq_of_lt hc, Nat.add_zero]
  have e2 : (j * k + c) % k = c := by rw [Nat.mul_comm, Nat.mul_add_mod, Nat.mod_eq_of_lt hc]
  rw [e1, e2]
  have hl := hlen ys[j]
  simp [hj, hl, hc]
 ·rw [List.getElem?_take_eq_none (by omega), List.getElem?_eq_none (by rw [hlen]; omega)]
/-- A row of the call's own, sorted. -/
theorem R_sortedK (hsz : d.sz = k) (hlen : ∀ x, (enc x).length = k) (hM : ∀ {w base ok x cs}, d.M w base ok (val x) cs → cs = enc x) (hM' : ∀ {w base ok x}, d.M w base ok (val x) (enc x)) {w : World} {base : Nat} {ok : Nat → Prop} {v : Value} {ys zs : List α} (h : d.R e w base ok v (ys.map val)) (h0 : ys ≠ []) (hl : zs.length = ys.length) :
  ∃ g c, v = .slice (some ⟨g, 0, none⟩) ys.length c ∧ base ≤ g ∧ ok g ∧ g < w.heap.size ∧ ys.length ≤ maxLen ∧ Go.Sort.HoldsK enc k w g 0 ys.toArray ∧ ∀ n os, d.R e (sortWorldK enc k w g 0 n zs.toArray os) base ok v (zs.map val) := by
 obtain ⟨h1, inner, ho, hr⟩ := h
 obtain ⟨hi, ho⟩ := ho
 rcases ho with ⟨_, ho⟩ | ⟨g, c, cur, rfl, hg, hb, h2, h3, h4, h5⟩
 ·rw [List.length_map] at ho
  exact absurd (List.eq_nil_of_length_eq_zero ho) h0
 ·rw [List.length_map] at h2 h5 hi
  refine ⟨g, c, by rw [List.length_map], hg, h1 g rfl, (Array.getElem?_eq_some_iff.1 hb).1, Nat.le_trans h2 h3, ?_, ?_⟩
  ·subst h5
   exact holdsK_of hsz hM hb hr
  ·intro n os
   have hfs : (Go.Sort.flatK enc k zs.toArray).size = ys.length * k := by simp [hl]
   have hcz : ys.length * k ≤ cur.size := by rw [h4, hsz]; exact Nat.mul_le_mul_right k h2
   refine ⟨h1, (Go.Sort.flatK enc k zs.toArray).toList, ⟨by rw [Array.length_toList, hfs, hsz, List.length_map, hl], .inr ⟨g, c, _, by rw [List.length_map, List.length_map, hl], hg, heap_sortedK zs.toArray hb, by rw [List.length_map, hl]; exact h2, h3, by simp [Go.Sort.putCells, h4], ?_⟩⟩, ?_, ?_⟩
   ·rw [List.length_map, hl, hsz, ← hfs]
    exact take_putCellsK cur _ (by rw [hfs]; exact hcz)
   ·rw [Array.length_toList, hfs, hsz, List.length_map, hl]
   ·intro j p hp
    rw [List.getElem?_map] at hp
    obtain ⟨x, hx, rfl⟩ := Option.map_eq_some_iff.1 hp
    rw [hsz, flat_take hlen zs j x hx]
    exact hM'
end

/-- A fraction of a Farey list. -/
def frOk (x : S32) : Bool := decide (0 ≤ x.f0 ∧ x.f0 ≤ 1000) && (decide (1 ≤ x.f1 ∧ x.f1 ≤ 1000) && (Nat.gcd x.f0.toNat x.f1.toNat == 1))
/-- The order. -/
def frLe (x y : S32) : Bool := decide (x.f0 * y.f1 ≤ y.f0 * x.f1)
abbrev FrT := { x : S32 // frOk x = true }
instance : Inhabited FrT := ⟨⟨⟨0, 1⟩, by decide⟩⟩
def frEnc (x : FrT) : List Value := [.int .i64 x.1.f0, .int .i64 x.1.f1]
def frCmp (x y : FrT) : Int := -(y.1.f0 * x.1.f1 - x.1.f0 * y.1.f1)
theorem frOk_is {x : S32} (h : frOk x = true) : (0 ≤ x.f0 ∧ x.f0 ≤ 1000) ∧ (1 ≤ x.f1 ∧ x.f1 ≤ 1000) ∧ Nat.gcd x.f0.toNat x.f1.toNat = 1 := by
 unfold frOk at h
 simp only [Bool.and_eq_true, decide_eq_true_eq, beq_iff_eq] at h
 exact h
theorem frLt (x y : FrT) : ltOf frCmp x y = decide (x.1.f0 * y.1.f1 < y.1.f0 * x.1.f1) := by
 unfold ltOf frCmp
 exact decide_eq_decide.2 (by omega)
theorem frSWO : Go.Sort.SWO (ltOf frCmp) where
 irrefl x := by rw [frLt]; simp
 trans x y z h1 h2 := by
  rw [frLt] at *
  have h1 := of_decide_eq_true h1
  have h2 := of_decide_eq_true h2
  have hx := (frOk_is x.2).2.1.1
  have hy := (frOk_is y.2).2.1.1
  have hz := (frOk_is z.2).2.1.1
  apply decide_eq_true
  have a1 := Int.mul_lt_mul_of_pos_right h1 (show 0 < z.1.f1 by omega)
  have a2 := Int.mul_lt_mul_of_pos_right h2 (show 0 < x.1.f1 by omega)
  refine Int.lt_of_mul_lt_mul_right (a := y.1.f1) ?_ (by omega)
  calc x.1.f0 * z.1.f1 * y.1.f1 = x.1.f0 * y.1.f1 * z.1.f1 := by grind
   _ < y.1.f0 * x.1.f1 * z.1.f1 := a1
   _ = y.1.f0 * z.1.f1 * x.1.f1 := by grind
   _ < z.1.f0 * y.1.f1 * x.1.f1 := a2
   _ = z.1.f0 * x.1.f1 * y.1.f1 := by grind
 ntrans x y z h1 h2 := by
  rw [frLt] at *
  have h1 := of_decide_eq_false h1
  have h2 := of_decide_eq_false h2
  have hx := (frOk_is x.2).2.1.1
  have hy := (frOk_is y.2).2.1.1
  have hz := (frOk_is z.2).2.1.1
  apply decide_eq_false
  intro h
  have a1 := Int.mul_le_mul_of_nonneg_right (show y.1.f0 * x.1.f1 ≤ x.1.f0 * y.1.f1 by omega) (show 0 ≤ z.1.f1 by omega)
  have a2 := Int.mul_le_mul_of_nonneg_right (show z.1.f0 * y.1.f1 ≤ y.1.f0 * z.1.f1 by omega) (show 0 ≤ x.1.f1 by omega)
  have a3 := Int.mul_lt_mul_of_pos_right h (show 0 < y.1.f1 by omega)
  have e1 : z.1.f0 * y.1.f1 * x.1.f1 = z.1.f0 * x.1.f1 * y.1.f1 := by grind
  have e2 : y.1.f0 * z.1.f1 * x.1.f1 = y.1.f0 * x.1.f1 * z.1.f1 := by grind
  have e3 : x.1.f0 * y.1.f1 * z.1.f1 = x.1.f0 * z.1.f1 * y.1.f1 := by grind
  omega
theorem frTot (x y : FrT) (h1 : ltOf frCmp x y = false) (h2 : ltOf frCmp y x = false) : x = y := by
 rw [frLt] at *
 have h1 := of_decide_eq_false h1
 have h2 := of_decide_eq_false h2
 have hx := frOk_is x.2
 have hy := frOk_is y.2
 have he : x.1.f0 * y.1.f1 = y.1.f0 * x.1.f1 := by omega
 obtain ⟨⟨⟨a, b⟩, p⟩, rfl⟩ : ∃ u : FrT, u = x := ⟨x, rfl⟩
 obtain ⟨⟨⟨c, d⟩, q⟩, rfl⟩ : ∃ u : FrT, u = y := ⟨y, rfl⟩
 simp only at *
 obtain ⟨A, rfl⟩ : ∃ A : Nat, a = A := ⟨a.toNat, by omega⟩
 obtain ⟨B, rfl⟩ : ∃ B : Nat, b = B := ⟨b.toNat, by omega⟩
 obtain ⟨C, rfl⟩ : ∃ C : Nat, c = C := ⟨c.toNat, by omega⟩
 obtain ⟨D, rfl⟩ : ∃ D : Nat, d = D := ⟨d.toNat, by omega⟩
 simp only [Int.toNat_natCast] at hx hy
 have he : A * D = C * B := by exact_mod_cast he
 have hbd : B ∣ D := Nat.Coprime.dvd_of_dvd_mul_left (show Nat.Coprime B A by rw [Nat.Coprime, Nat.gcd_comm]; exact hx.2.2) ⟨C, by rw [he, Nat.mul_comm]⟩
 have hdb : D ∣ B := Nat.Coprime.dvd_of_dvd_mul_left (show Nat.Coprime D C by rw [Nat.Coprime, Nat.gcd_comm]; exact hy.2.2) ⟨A, by rw [← he, Nat.mul_comm]⟩
 have hBD : B = D := Nat.dvd_antisymm hbd hdb
 subst hBD
 have hAC : A = C := Nat.eq_of_mul_eq_mul_right (by omega) he
 subst hAC
 rfl
set_option maxHeartbeats 8000000 in
set_option maxRecDepth 100000 in
theorem frCross_grow (a0_0 a0_1 a1_0 a1_1 : Int) (W : World) :
  Calls Try.prog 95 #[.agg #[.int .i64 a0_0, .int .i64 a0_1], .agg #[.int .i64 a1_0, .int .i64 a1_1]] W fun e w' => e = .returned (.int .i64 (wrap64 ((wrap64 (a1_0 * a0_1)) - (wrap64 (a0_0 * a1_1))))) ∧ ∃ q os', w' = Go.Sort.grow (W.drewN q) os' := by
 have hu32 := Try.underlying32
 go_enter Try.func95, Try.ntmps95
 go_wp2
 go_ret
 exact ⟨rfl, 0, _, by rw [Go.Sort.alloc_eq_grow, Go.Sort.alloc_eq_grow, Go.Sort.grow_grow]; rfl⟩
set_option maxHeartbeats 8000000 in
set_option maxRecDepth 100000 in
theorem frCmp_grow (a0_0 a0_1 a1_0 a1_1 : Int) (W : World) :
  Calls Try.prog 94 #[.agg #[.int .i64 a0_0, .int .i64 a0_1], .agg #[.int .i64 a1_0, .int .i64 a1_1]] W fun e w' => e = .returned (.int .i64 (wrap64 (-(wrap64 ((wrap64 (a1_0 * a0_1)) - (wrap64 (a0_0 * a1_1))))))) ∧ ∃ q os', w' = Go.Sort.grow (W.drewN q) os' := by
 have hc := fun W' => frCross_grow a0_0 a0_1 a1_0 a1_1 W'
 generalize wrap64 ((wrap64 (a1_0 * a0_1)) - (wrap64 (a0_0 * a1_1))) = r at hc ⊢
 go_enter Try.func94, Try.ntmps94
 go_wp2_with (go_at_call 95; refine (hc _).mono ?_; rintro e w5 ⟨rfl, q, os, rfl⟩)
 go_ret
 have key : ∀ o1 o2 : Obj, Go.Sort.grow (((W.alloc o1).alloc o2).drewN q) os = Go.Sort.grow (W.drewN q) (#[o1] ++ #[o2] ++ os) := fun o1 o2 => by
  rw [Go.Sort.alloc_eq_grow, Go.Sort.alloc_eq_grow, Go.Sort.grow_grow]
  exact Go.Sort.grow_grow (W.drewN q) _ _
 exact ⟨rfl, q, _, key _ _⟩
theorem wr64 (n : Int) (h : -9223372036854775808 ≤ n ∧ n ≤ 9223372036854775807) : wrap64 n = n := by unfold wrap64; omega
theorem frSmall {a b c d : Int} (ha : 0 ≤ a ∧ a ≤ 1000) (hb : 0 ≤ b ∧ b ≤ 1000) (hc : 0 ≤ c ∧ c ≤ 1000) (hd : 0 ≤ d ∧ d ≤ 1000) : wrap64 (-(wrap64 ((wrap64 (c * b)) - (wrap64 (a * d))))) = -(c * b - a * d) := by
 have h1 : 0 ≤ c * b := Int.mul_nonneg hc.1 hb.1
 have h2 : 0 ≤ a * d := Int.mul_nonneg ha.1 hd.1
 have h3 : c * b ≤ 1000 * 1000 := Int.mul_le_mul hc.2 hb.2 hb.1 (by omega)
 have h4 : a * d ≤ 1000 * 1000 := Int.mul_le_mul ha.2 hd.2 hd.1 (by omega)
 generalize c * b = p at *
 generalize a * d = q at *
 rw [wr64 _ (show -9223372036854775808 ≤ p ∧ p ≤ 9223372036854775807 by omega), wr64 _ (show -9223372036854775808 ≤ q ∧ q ≤ 9223372036854775807 by omega), wr64 _ (show -9223372036854775808 ≤ p - q ∧ p - q ≤ 9223372036854775807 by omega), wr64 _ (by omega)]
theorem frCmp_lays (blk off size : Nat) (w : World) : CmpLays Try.prog 94 #[] frEnc 2 frCmp blk off size w := by
 intro m os dk _ x y
 have hx := frOk_is x.2
 have hy := frOk_is y.2
 have h := frCmp_grow x.1.f0 x.1.f1 y.1.f0 y.1.f1 (sortWorldK frEnc 2 w blk off m dk os)
 rw [frSmall hx.1 ⟨by omega, hx.2.1.2⟩ hy.1 ⟨by omega, hy.2.1.2⟩] at h
 exact h
def frLays_ren : Go.Shelf.Ren := ⟨fun | 6 => 93 | 15 => 128 | 14 => 127 | 28 => 160 | 29 => 161 | 20 => 152 | 21 => 153 | 22 => 154 | 23 => 155 | 24 => 156 | 25 => 157 | 26 => 158 | 27 => 159 | 46 => 174 | 47 => 175 | 48 => 176 | 49 => 177 | 50 => 178 | 57 => 182 | n => n, fun | 22 => 22 | 24 => 32 | 25 => 86 | 3 => 3 | 39 => 107 | 0 => 0 | 53 => 128 | 55 => 130 | 4 => 4 | 46 => 122 | 45 => 121 | 50 => 28 | 5 => 5 | 9 => 9 | 66 => 141 | 70 => 145 | 76 => 149 | 77 => 150 | n => n, fun | n => n⟩
theorem frLays : Go.Proofs.SlLaysF0.n6 Try.prog frLays_ren := {
 mixed := by kernel_rfl
 f6 := ⟨Try.f93.name, by decide, Try.func93.trans (congrArg some (by kernel_rfl))⟩
 f14 := ⟨Try.f127.name, by decide, Try.func127.trans (congrArg some (by kernel_rfl))⟩
 f15 := Try.func128.trans (congrArg some (by kernel_rfl))
 f20 := ⟨Try.f152.name, by decide, Try.func152.trans (congrArg some (by kernel_rfl))⟩
 f21 := ⟨Try.f153.name, by decide, Try.func153.trans (congrArg some (by kernel_rfl))⟩
 f22 := ⟨Try.f154.name, by decide, Try.func154.trans (congrArg some (by kernel_rfl))⟩
 f23 := ⟨Try.f155.name, by decide, Try.func155.trans (congrArg some (by kernel_rfl))⟩
 f24 := ⟨Try.f156.name, by decide, Try.func156.trans (congrArg some (by kernel_rfl))⟩
 f25 := ⟨Try.f157.name, by decide, Try.func157.trans (congrArg some (by kernel_rfl))⟩
 f26 := ⟨Try.f158.name, by decide, Try.func158.trans (congrArg some (by kernel_rfl))⟩
 f27 := ⟨Try.f159.name, by decide, Try.func159.trans (congrArg some (by kernel_rfl))⟩
 f28 := Try.func160.trans (congrArg some (by kernel_rfl))
 f29 := Try.func161.trans (congrArg some (by kernel_rfl))
 f46 := ⟨Try.f174.name, by decide, Try.func174.trans (congrArg some (by kernel_rfl))⟩
 f47 := Try.func175.trans (congrArg some (by kernel_rfl))
 f48 := Try.func176.trans (congrArg some (by kernel_rfl))
 f49 := ⟨Try.f177.name, by decide, Try.func177.trans (congrArg some (by kernel_rfl))⟩
 f50 := ⟨Try.f178.name, by decide, Try.func178.trans (congrArg some (by kernel_rfl))⟩
 f57 := ⟨Try.f182.name, by decide, Try.func182.trans (congrArg some (by kernel_rfl))⟩
 t0 := Try.underlying0
 a0 := Try.isAgg0
 z0 := Try.sizeOf0
 v0 := Try.zeroValue0
 t3 := Try.underlying3
 a3 := Try.isAgg3
 z3 := Try.sizeOf3
 v3 := Try.zeroValue3
 t4 := Try.underlying4
 a4 := Try.isAgg4
 z4 := Try.sizeOf4
 v4 := Try.zeroValue4
 t5 := Try.underlying5
 a5 := Try.isAgg5
 z5 := Try.sizeOf5
 v5 := Try.zeroValue5
 t9 := Try.underlying9
 a9 := Try.isAgg9
 z9 := Try.sizeOf9
 v9 := Try.zeroValue9
 t22 := Try.underlying22
 a22 := Try.isAgg22
 z22 := Try.sizeOf22
 v22 := Try.zeroValue22
 t25 := Try.underlying86
 a25 := Try.isAgg86
 z25 := Try.sizeOf86
 v25 := Try.zeroValue86
 t39 := Try.underlying107
 a39 := Try.isAgg107
 z39 := Try.sizeOf107
 v39 := Try.zeroValue107
 t45 := Try.underlying121
 a45 := Try.isAgg121
 z45 := Try.sizeOf121
 v45 := Try.zeroValue121
 t46 := Try.underlying122
 a46 := Try.isAgg122
 z46 := Try.sizeOf122
 v46 := Try.zeroValue122
 t50 := Try.underlying28
 a50 := Try.isAgg28
 z50 := Try.sizeOf28
 v50 := Try.zeroValue28
 t53 := Try.underlying128
 a53 := Try.isAgg128
 z53 := Try.sizeOf128
 v53 := Try.zeroValue128
 t55 := Try.underlying130
 a55 := Try.isAgg130
 z55 := Try.sizeOf130
 v55 := Try.zeroValue130
 t66 := Try.underlying141
 a66 := Try.isAgg141
 z66 := Try.sizeOf141
 v66 := Try.zeroValue141
 t70 := Try.underlying145
 a70 := Try.isAgg145
 z70 := Try.sizeOf145
 v70 := Try.zeroValue145
 t76 := Try.underlying149
 a76 := Try.isAgg149
 z76 := Try.sizeOf149
 v76 := Try.zeroValue149
 t77 := Try.underlying150
 a77 := Try.isAgg150
 z77 := Try.sizeOf150
 v77 := Try.zeroValue150 }

def impl_Fraction_93.f (l0 : List S32) : Option (List S32) := if l0.all frOk = true ∧ l0.isEmpty = false ∧ l0.length ≤ 1048576 then some (l0.mergeSort frLe) else none
set_option maxHeartbeats 4000000 in
set_option maxRecDepth 100000 in
theorem impl_Fraction_93.calls (P0_ : Nat → Prop) (u9000_ : Value) (l0 : List S32) (r : List S32) (w0 w : World) (hB : Below w0.heap.size w0 w) (ho0 : Kd.R k32 32 w w0.heap.size P0_ u9000_ l0) (h : impl_Fraction_93.f l0 = some r) :
  Calls Try.prog 93 #[u9000_, .func (.func 94) #[] #[]] w fun e w' => e = .returned (.tuple #[]) ∧ Kd.R k32 32 w' w0.heap.size (fun k_ => (P0_ k_ ∨ w.heap.size ≤ k_)) u9000_ r ∧ Below w0.heap.size w0 w' ∧ Kept w w' (fun k_ => P0_ k_) := by
 have H : (if l0.all frOk = true ∧ l0.isEmpty = false ∧ l0.length ≤ 1048576 then some (l0.mergeSort frLe) else none) = some r := h
 clear h
 by_cases c : l0.all frOk = true ∧ l0.isEmpty = false ∧ l0.length ≤ 1048576
 ·rw [if_pos c] at H
  obtain rfl := Option.some.inj H
  obtain ⟨c1, c2, c3⟩ := c
  rw [List.all_eq_true] at c1
  obtain ⟨ys, rfl⟩ : ∃ ys : List FrT, ys.map Subtype.val = l0 := ⟨l0.attachWith (fun x => frOk x = true) c1, by simp⟩
  have h0 : ys ≠ [] := by rintro rfl; simp at c2
  have hs := List.map_mergeSort (r := fun x y : FrT => !(ltOf frCmp) y x) (s := frLe) (f := Subtype.val) (l := ys) (fun a _ b _ => by
   rw [frLt]
   unfold frLe
   rw [Bool.eq_iff_iff]
   simp [Int.not_lt])
  obtain ⟨g, cp, rfl, hg, hok, hlt, hmx, hH, hR⟩ := R_sortedK (k := 2) (enc := frEnc) (val := Subtype.val) (d := k32) (zs := ys.mergeSort fun x y => !(ltOf frCmp) y x) rfl (fun _ => rfl) (fun h => k32_openM h) (fun {w base ok x} => k32_mkM w base ok x.1) ho0 h0 (List.length_mergeSort ys)
  have hcon := AnyQ.slices_SortFunc_total frLays 2 Try.isAgg32 Try.sizeOf32 frEnc (fun _ => rfl) (fun x v hv => by simp [frEnc] at hv; rcases hv with rfl | rfl <;> rfl) frCmp frSWO 94 #[] g 0 cp ys.toArray w (enters_of Try.func94 (by kernel_rfl) rfl) (frCmp_lays g 0 _ w) hH hlt (by
   rw [List.length_map] at c3
   simp only [List.size_toArray]
   omega) frTot
  refine hcon.mono ?_
  rintro e w' ⟨rfl, n, os, rfl⟩
  have hgr := grownBy_sortedK (enc := frEnc) (k := 2) (w := w) (g := g) (n := n) (os := os) (ys.mergeSort fun x y => !(ltOf frCmp) y x).toArray
  refine ⟨rfl, ?_, ?_, ?_⟩
  ·rw [← hs]
   exact Kd.R_mono (hR n os) (fun _ hk => Or.inl hk)
  ·exact hB.grown hgr hB.size (fun k hk => by injection hk with hk; subst hk; exact hg)
  ·exact Kept.of_grown hgr (Kept.refl w _) (fun k hk => by injection hk with hk; subst hk; exact Or.inl hok)
 ·rw [if_neg c] at H
  cases H

/-! ### impl_farey: function 58 -/
mutual
def impl_farey.l0 : Nat → Int → List (S32) → Int → Option ((List (S32)))
 | 0, _, _, _ => none
 | k + 1, x0, x3, x4 => if x4 ≤ x0 then (impl_farey.l1 k x0 x3 x4 (wrap64 (x4 + 1)) 0) else ((impl_Fraction_93.f x3).bind fun t140 => (some t140))
def impl_farey.l1 : Nat → Int → List (S32) → Int → Int → Int → Option ((List (S32)))
 | 0, _, _, _, _, _ => none
 | k + 1, x0, x3, x4, x14, x15 => if x15 < x14 then ((impl_IsFraction.f k x15 x4).bind fun t142 => (if t142 = true then (if x3.length < 8796093022208 then (impl_farey.l1 k x0 (x3 ++ [(⟨x15, x4⟩ : S32)]) x4 x14 (wrap64 (x15 + 1))) else (none)) else (impl_farey.l1 k x0 x3 x4 x14 (wrap64 (x15 + 1))))) else (impl_farey.l0 k x0 x3 (wrap64 (x4 + 1)))
end
def impl_farey.f (k : Nat) (a0 : Int) : Option ((List (S32))) := impl_farey.l0 k a0 (([] : List (S32))) 1
theorem impl_farey.mono_l : ∀ k, (∀ y0 y1 y2, LeO (impl_farey.l0 k y0 y1 y2) (impl_farey.l0 (k + 1) y0 y1 y2)) ∧ (∀ y0 y1 y2 y3 y4, LeO (impl_farey.l1 k y0 y1 y2 y3 y4) (impl_farey.l1 (k + 1) y0 y1 y2 y3 y4))
 | 0 => ⟨fun _ _ _ r h => by simp [impl_farey.l0] at h, fun _ _ _ _ _ r h => by simp [impl_farey.l1] at h⟩
 | k + 1 => by
  obtain ⟨ih0, ih1⟩ := impl_farey.mono_l k
  refine ⟨?_, ?_⟩
  ·intro y0 y1 y2
   unfold impl_farey.l0
   repeat' first
   | (with_reducible exact ih0 _ _ _)
   | (with_reducible exact ih1 _ _ _ _ _)
   | (with_reducible exact impl_IsFraction.mono _ _ _)
   | (with_reducible exact LeO.refl _)
   | (with_reducible exact LeO.none _)
   | (with_reducible refine LeO.ite ?_ ?_)
   | (with_reducible refine LeO.bind ?_ (fun _ => ?_))
   | exact ih0 _ _ _
   | exact ih1 _ _ _ _ _
   | exact impl_IsFraction.mono _ _ _
   | exact LeO.none _
   | refine LeO.ite ?_ ?_
   | refine LeO.bind ?_ (fun _ => ?_)
  ·intro y0 y1 y2 y3 y4
   unfold impl_farey.l1
   repeat' first
   | (with_reducible exact ih0 _ _ _)
   | (with_reducible exact ih1 _ _ _ _ _)
   | (with_reducible exact impl_IsFraction.mono _ _ _)
   | (with_reducible exact LeO.refl _)
   | (with_reducible exact LeO.none _)
   | (with_reducible refine LeO.ite ?_ ?_)
   | (with_reducible refine LeO.bind ?_ (fun _ => ?_))
   | exact ih0 _ _ _
   | exact ih1 _ _ _ _ _
   | exact impl_IsFraction.mono _ _ _
   | exact LeO.none _
   | refine LeO.ite ?_ ?_
   | refine LeO.bind ?_ (fun _ => ?_)
theorem impl_farey.mono : ∀ a0 k, LeO (impl_farey.f k a0) (impl_farey.f (k + 1) a0) := by
 intro a0 k
 obtain ⟨ih0, ih1⟩ := impl_farey.mono_l k
 unfold impl_farey.f
 repeat' first
   | (with_reducible exact ih0 _ _ _)
   | (with_reducible exact ih1 _ _ _ _ _)
   | (with_reducible exact impl_IsFraction.mono _ _ _)
   | (with_reducible exact LeO.refl _)
   | (with_reducible exact LeO.none _)
   | (with_reducible refine LeO.ite ?_ ?_)
   | (with_reducible refine LeO.bind ?_ (fun _ => ?_))
   | exact ih0 _ _ _
   | exact ih1 _ _ _ _ _
   | exact impl_IsFraction.mono _ _ _
   | exact LeO.none _
   | refine LeO.ite ?_ ?_
   | refine LeO.bind ?_ (fun _ => ?_)
set_option maxHeartbeats 8000000 in
set_option maxRecDepth 100000 in
theorem impl_farey.calls (k : Nat) (a0 : Int) (r : List (S32)) (w : World) (h : impl_farey.f k a0 = some r) :
  Calls Try.prog 58 #[.int .i64 a0] w fun e w' => ∃ v0_ : Value, e = .returned (v0_) ∧ Kd.R k32 32 w' w.heap.size (fun _ => True) v0_ r ∧ Below w.heap.size w w' := by
 have hu32 := Try.underlying32
 have HB := Aside0.mk (Below.refl w.heap.size w)
 have H : (impl_farey.l0 k a0 (([] : List (S32))) 1) = some r := h
 clear h
 obtain ⟨y137, hy137⟩ : ∃ y_ : List (S32), y_ = (([] : List (S32))) := ⟨_, rfl⟩
 replace H : (impl_farey.l0 k a0 y137 1) = some r := by first | (rw [hy137]; with_reducible exact H) | (have H2_ := (Option.bind_some _ _).symm.trans H; rw [hy137]; with_reducible exact H2_) | (have H2_ := (Option.bind_some _ _).symm.trans H; with_reducible exact H2_) | with_reducible exact H | (rw [hy137]; exact H) | exact H
 have Ny137 := Aside0.mk hy137
 clear hy137
 have H' := Aside0.mk H
 clear H
 go_enter Try.func58, Try.ntmps58
 go_wp2_with (first | ((with_reducible refine gate_dst (N := 7) rfl ?_); refine Kd.R_lit k32 _ 32 ?hg (N := 7) ?hd (xs := ([] : List (S32))) (inner := []) (ok := fun _ => True) (okp := fun _ => True) ?hr ?hp (fun _ hk => hk) trivial (Below.refl _ _) (Nat.le_refl _) (by simp) ?_; (case hd => rfl); (case hg => rfl); (case hr => first | (go_simp; done) | (go_simp; rfl)); (case hp => exact (Reps.none _ _)); intro v138 w2 ho3 hb hg_ hnew_; clear hg_ hnew_; (first | rw [← Ny137.out] at ho3 | (simp only [Int.reduceToNat] at ho3; rw [← Ny137.out] at ho3)); have n0_ := Aside0.mk (Kd.R_lower ho3 (below_size blw_)); have n1_ := Aside0.mk (below_step blw_ hb); clear HB; have HO139 := n0_; have HB := n1_; clear n0_ n1_; clear hb ho3))
 go_loopg [3, 4] k (fun kq v3 v4 w' => ∃ (x3_1 : List (S32)) (x4_1 : Int), v4 = .int .i64 x4_1 ∧ Aside0 (impl_farey.l0 kq a0 x3_1 x4_1 = some r) ∧ Aside0 (kq ≤ k) ∧ Aside0 (Kd.R k32 32 w' w.heap.size (fun _ => True) v3 x3_1) ∧ Aside0 (Below w.heap.size w w'))
 case atStart => exact ⟨(y137), (1), (by first | rfl | (simp; done) | (simp [*]; done)), H', ⟨Nat.le_refl _⟩, ⟨ra_ HO139.out⟩, ⟨by repeat (first | (with_reducible first | exact HB.out | apply below_alloc | apply pw_below_drewN | apply below_drew1) | exact HB.out)⟩⟩
 case round =>
  clear H'
  try clear p2
  try clear HO_3
  obtain ⟨x3_1, x4_1, rfl, HA, HK1, HO_3, HB⟩ := hrel
  cases gk with
  | zero => exact absurd HA.out (by simp [impl_farey.l0])
  | succ k1 =>
   have H := HA.out
   clear HA
   simp only [impl_farey.l0] at H
   by_cases c4 : x4_1 ≤ a0
   ·rw [if_pos c4] at H
    have c4b0 : decide (x4_1 ≤ a0) = true := decide_eq_true c4
    clear c4
    have H' := Aside0.mk H
    clear H
    go_wp2
    go_loopg [3, 15] k1 (fun kq v3 v15 w' => ∃ (x3_2 : List (S32)) (x15_2 : Int), v15 = .int .i64 x15_2 ∧ Aside0 (impl_farey.l1 kq a0 x3_2 x4_1 (wrap64 (x4_1 + 1)) x15_2 = some r) ∧ Aside0 (kq ≤ k1) ∧ Aside0 (Kd.R k32 32 w' w.heap.size (fun _ => True) v3 x3_2) ∧ Aside0 (Below w.heap.size w w'))
    case atStart => exact ⟨(x3_1), (0), (by first | rfl | (simp; done) | (simp [*]; done)), H', ⟨Nat.le_refl _⟩, ⟨ra_ HO_3.out⟩, ⟨by repeat (first | (with_reducible first | exact HB.out | apply below_alloc | apply pw_below_drewN | apply below_drew1) | exact HB.out)⟩⟩
    case round =>
     clear H'
     try clear p2
     try clear c4
     try clear c4b0
     try clear p2
     try clear HO_3
     obtain ⟨x3_2, x15_2, rfl, HA, HK2, HO_3, HB⟩ := hrel
     cases gk with
     | zero => exact absurd HA.out (by simp [impl_farey.l1])
     | succ k2 =>
      have H := HA.out
      clear HA
      simp only [impl_farey.l1] at H
      by_cases c5 : x15_2 < (wrap64 (x4_1 + 1))
      ·rw [if_pos c5] at H
       have c5b0 : decide (x15_2 < (wrap64 (x4_1 + 1))) = true := decide_eq_true c5
       clear c5
       replace H := Option.bind_eq_some_iff.mp H
       obtain ⟨t142, A60, H⟩ := H
       replace H : (if t142 = true then (if x3_2.length < 8796093022208 then (impl_farey.l1 k2 a0 (x3_2 ++ [(⟨x15_2, x4_1⟩ : S32)]) x4_1 (wrap64 (x4_1 + 1)) (wrap64 (x15_2 + 1))) else (none)) else (impl_farey.l1 k2 a0 x3_2 x4_1 (wrap64 (x4_1 + 1)) (wrap64 (x15_2 + 1)))) = some r := H
       have A6 := Aside0.mk A60
       clear A60
       by_cases c7 : t142 = true
       ·subst c7
        have H1 : (if x3_2.length < 8796093022208 then (impl_farey.l1 k2 a0 (x3_2 ++ [(⟨x15_2, x4_1⟩ : S32)]) x4_1 (wrap64 (x4_1 + 1)) (wrap64 (x15_2 + 1))) else (none)) = some r := by rw [if_pos rfl] at H; exact H
        clear H
        have H := H1
        clear H1
        by_cases c8 : x3_2.length < 8796093022208
        ·rw [if_pos c8] at H
         have LMc8 := Aside0.mk c8
         clear c8
         obtain ⟨y143, hy143⟩ : ∃ y_ : List (S32), y_ = (x3_2 ++ [(⟨x15_2, x4_1⟩ : S32)]) := ⟨_, rfl⟩
         replace H : (impl_farey.l1 k2 a0 y143 x4_1 (wrap64 (x4_1 + 1)) (wrap64 (x15_2 + 1))) = some r := by first | (rw [hy143]; with_reducible exact H) | (have H2_ := (Option.bind_some _ _).symm.trans H; rw [hy143]; with_reducible exact H2_) | (have H2_ := (Option.bind_some _ _).symm.trans H; with_reducible exact H2_) | with_reducible exact H | (rw [hy143]; exact H) | exact H
         have Ny143 := Aside0.mk hy143
         clear hy143
         have H' := Aside0.mk H
         clear H
         go_wp2_with (first | ((with_reducible refine gate_dst (N := 6) rfl ?_); refine box_event ?hg (N := 6) ?hd (cs := #[.int .i64 0, .int .i64 0]) (t := 32) ?hr ?_; (case hd => rfl); (case hg => rfl); (case hr => first | (go_simp; done) | (go_simp; rfl)); intro gb141 hg w9 hbox hb; have n0_ := Aside0.mk (Kd.R_below (Kd.R_elderB (ra_ HO_3.out) gb141 (Nat.le_of_eq hg.symm)) hb); have n1_ := Aside0.mk (below_step blw_ hb); have n2_ := Aside0.mk (hbox); have n3_ := Aside0.mk ((by rw [hg]; exact (below_size blw_) : w.heap.size ≤ gb141)); have n4_ := Aside0.mk ((by rw [hg]; exact (below_size blw_) : w.heap.size ≤ gb141)); clear HO_3; clear HB; have HO_3 := n0_; have HB := n1_; have BK141 := n2_; have GW141 := n3_; have GE141 := n4_; clear n0_ n1_ n2_ n3_ n4_; clear hb hbox hg; have hcz10_0 : w9.cell? ⟨gb141, 0, none⟩ = some (.int .i64 0) := (blk_cell BK141.out 0).trans rfl; have hcz10_1 : w9.cell? ⟨gb141, 1, none⟩ = some (.int .i64 0) := (blk_cell BK141.out 1).trans rfl; have hfz10_0 := blk_frozen BK141.out 0; have hfz10_1 := blk_frozen BK141.out 1) | ((with_reducible refine gate_callee (f := 60) rfl ?_); refine goesL_ (some 22) rfl rfl Try.func60 (by kernel_rfl) rfl #[.agg #[.int .i64 x15_2, .int .i64 x4_1]] rfl amp_ ?_; (with_reducible refine (impl_IsFraction.calls k2 x15_2 x4_1 true _ A6.out).mono ?_); rintro e w11 ⟨rfl, hb⟩; refine ⟨_, rfl, ?_⟩; have n0_ := Aside0.mk (Kd.R_below (by (with_reducible repeat (first | apply Kd.R_alloc | apply Kd.R_drewN | apply Kd.R_drew)); exact (Kd.R_mono (Kd.R_far (p := ⟨gb141, 1, none⟩) (Kd.R_far (p := ⟨gb141, 0, none⟩) (Kd.R_mono HO_3.out (fun k_ hk => (⟨hk, hk.2⟩ : _ ∧ k_ ≠ gb141))) (fun _ hk => hk.2) (.int .i64 x15_2)) (fun _ hk => hk.2) (.int .i64 x4_1)) (fun _ h_ => h_.1))) hb); have n1_ := Aside0.mk (blk_below (g := gb141) (o := .cells #[.int .i64 x15_2, .int .i64 x4_1] 32 (0, 0)) (by (with_reducible repeat (first | refine blk_drewN ?_ _ | refine blk_drew ?_ | refine blk_alloc ?_ _)); refine blk_put (cs := #[.int .i64 x15_2, .int .i64 0]) ?_ 1 _ rfl; (with_reducible repeat (first | refine blk_drewN ?_ _ | refine blk_drew ?_ | refine blk_alloc ?_ _)); refine blk_put (cs := #[.int .i64 0, .int .i64 0]) ?_ 0 _ rfl; (with_reducible repeat (first | refine blk_drewN ?_ _ | refine blk_drew ?_ | refine blk_alloc ?_ _)); exact BK141.out) hb); have n2_ := Aside0.mk (below_step (by repeat (first | (with_reducible first | exact HB.out | apply below_alloc | apply pw_below_drewN | apply below_drew1 | refine below_set ?_ GE141.out) | exact HB.out)) hb); clear HO_3; clear BK141; clear HB; have HO_3 := n0_; have BK141 := n1_; have HB := n2_; clear n0_ n1_ n2_; (try clear hb); (try clear hb2); (try clear hk); (try clear hi); have hcz12_0 : w11.cell? ⟨gb141, 0, none⟩ = some (.int .i64 x15_2) := (blk_cell BK141.out 0).trans rfl; have hcz12_1 : w11.cell? ⟨gb141, 1, none⟩ = some (.int .i64 x4_1) := (blk_cell BK141.out 1).trans rfl; have hfz12_0 := blk_frozen BK141.out 0; have hfz12_1 := blk_frozen BK141.out 1) | ((with_reducible refine gate_builtin (b := .append) (xs := #[.tmp 23, .tmp 25]) rfl ?_); at_builtin; refine Kd.R_append k32 (w0 := w) w.heap.size rfl (.tmp 23) (.tmp 25) 22 32 (.agg #[(.int .i64 0), (.int .i64 0)]) 16 rfl Try.underlying22 info32 rfl (by decide) (by omega) u3 x3_2 (⟨x15_2, x4_1⟩ : S32) [.int .i64 x15_2, .int .i64 x4_1] (fun k_ => k_ ≠ gb141) (fun _ => False) rfl rfl ?aP (fun _ hk => hk.elim) ?aF ?aO ?aB ?aS ?aL ?_; (case aP => exact k32_mkM _ _ _ (⟨x15_2, x4_1⟩ : S32)); (case aB => exact (by repeat (first | (with_reducible first | exact HB.out | apply below_alloc | apply pw_below_drewN | apply below_drew1 | refine below_set ?_ GE141.out) | exact HB.out))); (case aF => exact (fun k_ hk => Kd.freshB (g := gb141) (o := .cells #[.int .i64 x15_2, .int .i64 x4_1] 32 (0, 0)) (bk_ BK141.out) k_ hk)); (case aO => exact (by (with_reducible repeat (first | apply Kd.R_alloc | apply Kd.R_drewN | apply Kd.R_drew)); exact Kd.R_mono HO_3.out (fun _ hk => hk.2))); (case aS => exact (below_size (by repeat (first | (with_reducible first | exact HB.out | apply below_alloc | apply pw_below_drewN | apply below_drew1 | refine below_set ?_ GE141.out) | exact HB.out)))); (case aL => have := LMc8.out; omega); intro v144 w13 ho hb hg hat; rw [← Ny143.out] at ho; have n0_ := Aside0.mk (blk_grown (g := gb141) (o := .cells #[.int .i64 x15_2, .int .i64 x4_1] 32 (0, 0)) (bk_ BK141.out) hg (Kd.R_away HO_3.out (fun _ hk => hk.2))); have n1_ := Aside0.mk (hb); have n2_ := Aside0.mk (ho); clear BK141; clear HB; clear HO_3; have BK141 := n0_; have HB := n1_; have HO145 := n2_; clear n0_ n1_ n2_; clear ho hb hg hat))
         go_roundg k2
         case measure => have := HK1.out; have := HK2.out; omega
         case rel => exact ⟨(y143), (wrap64 (x15_2 + 1)), (by first | rfl | (simp; done) | (simp [*]; done)), H', ⟨by have := HK1.out; have := HK2.out; omega⟩, ⟨by (with_reducible repeat (first | apply Kd.R_alloc | apply Kd.R_drewN | apply Kd.R_drew)); exact Kd.R_mono HO145.out (fun _ hk => trivial)⟩, ⟨by repeat (first | (with_reducible first | exact HB.out | apply below_alloc | apply pw_below_drewN | apply below_drew1 | refine below_set ?_ GE141.out) | exact HB.out)⟩⟩
        ·rw [if_neg c8] at H
         exact absurd H (by simp)
       ·replace c7 := Bool.eq_false_iff.mpr c7
        subst c7
        have H1 : (impl_farey.l1 k2 a0 x3_2 x4_1 (wrap64 (x4_1 + 1)) (wrap64 (x15_2 + 1))) = some r := by rw [if_neg (show ¬ (false = true) by decide)] at H; exact H
        clear H
        have H := H1
        clear H1
        have H' := Aside0.mk H
        clear H
        go_wp2_with (first | ((with_reducible refine gate_dst (N := 6) rfl ?_); refine box_event ?hg (N := 6) ?hd (cs := #[.int .i64 0, .int .i64 0]) (t := 32) ?hr ?_; (case hd => rfl); (case hg => rfl); (case hr => first | (go_simp; done) | (go_simp; rfl)); intro gb141 hg w14 hbox hb; have n0_ := Aside0.mk (Kd.R_below (Kd.R_elderB (ra_ HO_3.out) gb141 (Nat.le_of_eq hg.symm)) hb); have n1_ := Aside0.mk (below_step blw_ hb); have n2_ := Aside0.mk (hbox); have n3_ := Aside0.mk ((by rw [hg]; exact (below_size blw_) : w.heap.size ≤ gb141)); have n4_ := Aside0.mk ((by rw [hg]; exact (below_size blw_) : w.heap.size ≤ gb141)); clear HO_3; clear HB; have HO_3 := n0_; have HB := n1_; have BK141 := n2_; have GW141 := n3_; have GE141 := n4_; clear n0_ n1_ n2_ n3_ n4_; clear hb hbox hg; have hcz15_0 : w14.cell? ⟨gb141, 0, none⟩ = some (.int .i64 0) := (blk_cell BK141.out 0).trans rfl; have hcz15_1 : w14.cell? ⟨gb141, 1, none⟩ = some (.int .i64 0) := (blk_cell BK141.out 1).trans rfl; have hfz15_0 := blk_frozen BK141.out 0; have hfz15_1 := blk_frozen BK141.out 1) | ((with_reducible refine gate_callee (f := 60) rfl ?_); refine goesL_ (some 22) rfl rfl Try.func60 (by kernel_rfl) rfl #[.agg #[.int .i64 x15_2, .int .i64 x4_1]] rfl amp_ ?_; (with_reducible refine (impl_IsFraction.calls k2 x15_2 x4_1 false _ A6.out).mono ?_); rintro e w16 ⟨rfl, hb⟩; refine ⟨_, rfl, ?_⟩; have n0_ := Aside0.mk (Kd.R_below (by (with_reducible repeat (first | apply Kd.R_alloc | apply Kd.R_drewN | apply Kd.R_drew)); exact (Kd.R_mono (Kd.R_far (p := ⟨gb141, 1, none⟩) (Kd.R_far (p := ⟨gb141, 0, none⟩) (Kd.R_mono HO_3.out (fun k_ hk => (⟨hk, hk.2⟩ : _ ∧ k_ ≠ gb141))) (fun _ hk => hk.2) (.int .i64 x15_2)) (fun _ hk => hk.2) (.int .i64 x4_1)) (fun _ h_ => h_.1))) hb); have n1_ := Aside0.mk (blk_below (g := gb141) (o := .cells #[.int .i64 x15_2, .int .i64 x4_1] 32 (0, 0)) (by (with_reducible repeat (first | refine blk_drewN ?_ _ | refine blk_drew ?_ | refine blk_alloc ?_ _)); refine blk_put (cs := #[.int .i64 x15_2, .int .i64 0]) ?_ 1 _ rfl; (with_reducible repeat (first | refine blk_drewN ?_ _ | refine blk_drew ?_ | refine blk_alloc ?_ _)); refine blk_put (cs := #[.int .i64 0, .int .i64 0]) ?_ 0 _ rfl; (with_reducible repeat (first | refine blk_drewN ?_ _ | refine blk_drew ?_ | refine blk_alloc ?_ _)); exact BK141.out) hb); have n2_ := Aside0.mk (below_step (by repeat (first | (with_reducible first | exact HB.out | apply below_alloc | apply pw_below_drewN | apply below_drew1 | refine below_set ?_ GE141.out) | exact HB.out)) hb); clear HO_3; clear BK141; clear HB; have HO_3 := n0_; have BK141 := n1_; have HB := n2_; clear n0_ n1_ n2_; (try clear hb); (try clear hb2); (try clear hk); (try clear hi)))
        go_roundg k2
        case measure => have := HK1.out; have := HK2.out; omega
        case rel => exact ⟨(x3_2), (wrap64 (x15_2 + 1)), (by first | rfl | (simp; done) | (simp [*]; done)), H', ⟨by have := HK1.out; have := HK2.out; omega⟩, ⟨by (with_reducible repeat (first | apply Kd.R_alloc | apply Kd.R_drewN | apply Kd.R_drew)); exact Kd.R_mono HO_3.out (fun _ hk => trivial)⟩, ⟨by repeat (first | (with_reducible first | exact HB.out | apply below_alloc | apply pw_below_drewN | apply below_drew1 | refine below_set ?_ GE141.out) | exact HB.out)⟩⟩
      ·rw [if_neg c5] at H
       have c5b0 : decide (x15_2 < (wrap64 (x4_1 + 1))) = false := decide_eq_false c5
       clear c5
       have H' := Aside0.mk H
       clear H
       go_wp2
       go_roundg k2
       case measure => have := HK1.out; have := HK2.out; omega
       case rel => exact ⟨(x3_2), (wrap64 (x4_1 + 1)), (by first | rfl | (simp; done) | (simp [*]; done)), H', ⟨by have := HK1.out; have := HK2.out; omega⟩, ⟨ra_ HO_3.out⟩, ⟨by repeat (first | (with_reducible first | exact HB.out | apply below_alloc | apply pw_below_drewN | apply below_drew1) | exact HB.out)⟩⟩
   ·rw [if_neg c4] at H
    have c4b0 : decide (x4_1 ≤ a0) = false := decide_eq_false c4
    clear c4
    replace H := Option.bind_eq_some_iff.mp H
    obtain ⟨t140, A170, H⟩ := H
    replace H : (some t140) = some r := H
    have A17 := Aside0.mk A170
    clear A170
    obtain rfl := Option.some.inj H
    obtain ⟨Ao18, co18, eo18⟩ := Kd.R_slice HO_3.out
    subst eo18
    go_wp2_with (first | ((with_reducible refine gate_callee (f := 93) rfl ?_); refine goesL_ (some 29) rfl rfl Try.func93 (by kernel_rfl) rfl #[.slice Ao18 x3_1.length co18, .func (.func 94) #[] #[]] rfl amp_ ?_; (with_reducible refine (impl_Fraction_93.calls (fun k_ => some k_ = (.slice Ao18 x3_1.length co18 : Value).ownBlock) (.slice Ao18 x3_1.length co18) x3_1  t140 w _ ?side1 ?side2 A17.out).mono ?_); (case side1 => repeat (first | (with_reducible first | exact HB.out | apply below_alloc | apply pw_below_drewN | apply below_drew1) | exact HB.out)); (case side2 => exact Kd.R_tight rfl HO_3.out); rintro e w19 ⟨rfl, hy0, hb, hkp⟩; refine ⟨_, rfl, ?_⟩; have n0_ := Aside0.mk (Kd.R_reok rfl hy0 (fun k_ e_ => HO_3.out.1 k_ e_)); have n1_ := Aside0.mk (hb); clear HO_3; clear HB; have HO_3 := n0_; have HB := n1_; clear n0_ n1_; (try clear hb); (try clear hkp); (try clear hy0)))
    go_ret
    exact ⟨_, by first | rfl | (simp [errW_none, errW_some] <;> rfl) | (simp [*, errW_none, errW_some] <;> rfl), by (with_reducible repeat (first | apply Kd.R_alloc | apply Kd.R_drewN | apply Kd.R_drew)); exact HO_3.out, by repeat (first | (with_reducible first | exact HB.out | apply below_alloc | apply pw_below_drewN | apply below_drew1) | exact HB.out)⟩

/-! ### impl_Fraction_61: function 61 -/
def impl_Fraction_61.l0 : Nat → List (S32) → Int → Int → Int → Int → Option (Int)
 | 0, _, _, _, _, _ => none
 | k + 1, x0, x7, x8, x147000, x147001 => if x8 < x7 then (if 0 ≤ x8 then (if x8 < (x0.length : Int) then (if (x147000 == ((rd_T32 x0 x8).f0) && (x147001 == ((rd_T32 x0 x8).f1))) = true then (some x8) else (impl_Fraction_61.l0 k x0 x7 (wrap64 (x8 + 1)) x147000 x147001)) else (none)) else (none)) else (some (-1))
def impl_Fraction_61.f (k : Nat) (l0 : List (S32)) (a1_0 : Int) (a1_1 : Int) : Option (Int) := impl_Fraction_61.l0 k l0 (l0.length : Int) 0 a1_0 a1_1
theorem impl_Fraction_61.mono_l : ∀ k, (∀ y0 y1 y2 y3 y4, LeO (impl_Fraction_61.l0 k y0 y1 y2 y3 y4) (impl_Fraction_61.l0 (k + 1) y0 y1 y2 y3 y4))
 | 0 => fun _ _ _ _ _ r h => by simp [impl_Fraction_61.l0] at h
 | k + 1 => by
  have ih0 := impl_Fraction_61.mono_l k
  ·intro y0 y1 y2 y3 y4
   unfold impl_Fraction_61.l0
   repeat' first
   | (with_reducible exact ih0 _ _ _ _ _)
   | (with_reducible exact LeO.refl _)
   | (with_reducible exact LeO.none _)
   | (with_reducible refine LeO.ite ?_ ?_)
   | (with_reducible refine LeO.bind ?_ (fun _ => ?_))
   | exact ih0 _ _ _ _ _
   | exact LeO.none _
   | refine LeO.ite ?_ ?_
   | refine LeO.bind ?_ (fun _ => ?_)
theorem impl_Fraction_61.mono : ∀ a0 a1 a2 k, LeO (impl_Fraction_61.f k a0 a1 a2) (impl_Fraction_61.f (k + 1) a0 a1 a2) := by
 intro a0 a1 a2 k
 have ih0 := impl_Fraction_61.mono_l k
 unfold impl_Fraction_61.f
 repeat' first
   | (with_reducible exact ih0 _ _ _ _ _)
   | (with_reducible exact LeO.refl _)
   | (with_reducible exact LeO.none _)
   | (with_reducible refine LeO.ite ?_ ?_)
   | (with_reducible refine LeO.bind ?_ (fun _ => ?_))
   | exact ih0 _ _ _ _ _
   | exact LeO.none _
   | refine LeO.ite ?_ ?_
   | refine LeO.bind ?_ (fun _ => ?_)
set_option maxHeartbeats 8000000 in
set_option maxRecDepth 100000 in
theorem impl_Fraction_61.calls (k : Nat) (A0 : Option Addr) (c0 : Nat) (l0 : List (S32)) (a1_0 : Int) (a1_1 : Int) (r : Int) (w : World) (hr0 : Kd.C k32 w A0 l0.length l0) (hc0 : l0.length ≤ c0) (h : impl_Fraction_61.f k l0 a1_0 a1_1 = some r) :
  Calls Try.prog 61 #[.slice A0 l0.length c0, .agg #[.int .i64 a1_0, .int .i64 a1_1]] w fun e w' => e = .returned (.int .i64 r) ∧ Below w.heap.size w w' := by
 have hu32 := Try.underlying32
 have HR0 := Aside0.mk hr0
 have HC0 := Aside0.mk hc0
 clear hr0 hc0
 have HB := Aside0.mk (Below.refl w.heap.size w)
 have H : (impl_Fraction_61.l0 k l0 (l0.length : Int) 0 a1_0 a1_1) = some r := h
 clear h
 have H' := Aside0.mk H
 clear H
 go_enter Try.func61, Try.ntmps61
 go_wp2_with (first | ((with_reducible refine gate_dst (N := 3) rfl ?_); refine box_event ?hg (N := 3) ?hd (cs := #[.int .i64 a1_0, .int .i64 a1_1]) (t := 32) ?hr ?_; (case hd => rfl); (case hg => rfl); (case hr => first | (go_simp; done) | (go_simp; rfl)); intro gb146 hg w3 hbox hb; have n0_ := Aside0.mk (below_step blw_ hb); have n1_ := Aside0.mk (hbox); have n2_ := Aside0.mk ((by rw [hg]; exact (below_size blw_) : w.heap.size ≤ gb146)); have n3_ := Aside0.mk ((by rw [hg]; exact (below_size blw_) : w.heap.size ≤ gb146)); clear HB; have HB := n0_; have BK146 := n1_; have GW146 := n2_; have GE146 := n3_; clear n0_ n1_ n2_ n3_; clear hb hbox hg))
 repeat (go_quiet (first | ((with_reducible refine gate_dst (N := 3) rfl ?_); refine box_event ?hg (N := 3) ?hd (cs := #[.int .i64 a1_0, .int .i64 a1_1]) (t := 32) ?hr ?_; (case hd => rfl); (case hg => rfl); (case hr => first | (go_simp; done) | (go_simp; rfl)); intro gb146 hg w3 hbox hb; have n0_ := Aside0.mk (below_step blw_ hb); have n1_ := Aside0.mk (hbox); have n2_ := Aside0.mk ((by rw [hg]; exact (below_size blw_) : w.heap.size ≤ gb146)); have n3_ := Aside0.mk ((by rw [hg]; exact (below_size blw_) : w.heap.size ≤ gb146)); clear HB; have HB := n0_; have BK146 := n1_; have GW146 := n2_; have GE146 := n3_; clear n0_ n1_ n2_ n3_; clear hb hbox hg)); try go_wp2_with (first | ((with_reducible refine gate_dst (N := 3) rfl ?_); refine box_event ?hg (N := 3) ?hd (cs := #[.int .i64 a1_0, .int .i64 a1_1]) (t := 32) ?hr ?_; (case hd => rfl); (case hg => rfl); (case hr => first | (go_simp; done) | (go_simp; rfl)); intro gb146 hg w3 hbox hb; have n0_ := Aside0.mk (below_step blw_ hb); have n1_ := Aside0.mk (hbox); have n2_ := Aside0.mk ((by rw [hg]; exact (below_size blw_) : w.heap.size ≤ gb146)); have n3_ := Aside0.mk ((by rw [hg]; exact (below_size blw_) : w.heap.size ≤ gb146)); clear HB; have HB := n0_; have BK146 := n1_; have GW146 := n2_; have GE146 := n3_; clear n0_ n1_ n2_ n3_; clear hb hbox hg)))
 go_loopg [8] k (fun kq v8 w' => ∃ (x8_1 : Int), v8 = .int .i64 x8_1 ∧ Aside0 (impl_Fraction_61.l0 kq l0 (l0.length : Int) x8_1 a1_0 a1_1 = some r) ∧ Aside0 (kq ≤ k) ∧ Aside0 (w'.heap[gb146]? = some (.cells #[.int .i64 a1_0, .int .i64 a1_1] 32 (0, 0))) ∧ Aside0 (Below w.heap.size w w'))
 case atStart => exact ⟨(0), (by first | rfl | (simp; done) | (simp [*]; done)), H', ⟨Nat.le_refl _⟩, ⟨bk_ BK146.out⟩, ⟨by repeat (first | (with_reducible first | exact HB.out | apply below_alloc | apply pw_below_drewN | apply below_drew1 | refine below_set ?_ GE146.out) | exact HB.out)⟩⟩
 case round =>
  clear H'
  try clear p2
  obtain ⟨x8_1, rfl, HA, HK1, BK146, HB⟩ := hrel
  cases gk with
  | zero => exact absurd HA.out (by simp [impl_Fraction_61.l0])
  | succ k1 =>
   have H := HA.out
   clear HA
   simp only [impl_Fraction_61.l0] at H
   by_cases c4 : x8_1 < (l0.length : Int)
   ·rw [if_pos c4] at H
    have c4b0 : decide (x8_1 < (l0.length : Int)) = true := decide_eq_true c4
    clear c4
    by_cases c5 : 0 ≤ x8_1
    ·rw [if_pos c5] at H
     have c5b0 : decide (0 ≤ x8_1) = true := decide_eq_true c5
     clear c5
     by_cases c6 : x8_1 < (l0.length : Int)
     ·rw [if_pos c6] at H
      have c6b0 : decide (x8_1 < (l0.length : Int)) = true := decide_eq_true c6
      clear c6
      by_cases c7 : (a1_0 == ((rd_T32 l0 x8_1).f0) && (a1_1 == ((rd_T32 l0 x8_1).f1))) = true
      ·rw [if_pos c7] at H
       have c7b0 : (a1_0 == ((rd_T32 l0 x8_1).f0) && (a1_1 == ((rd_T32 l0 x8_1).f1))) = true := c7
       (try (have c7b1 : decide (a1_0 = ((rd_T32 l0 x8_1).f0) && (a1_1 == ((rd_T32 l0 x8_1).f1))) = true := by simpa using c7))
       (try (have c7b2 : (a1_0 == ((rd_T32 l0 x8_1).f0) && (a1_1 == ((rd_T32 l0 x8_1).f1))) = true := by simpa using c7))
       clear c7
       obtain rfl := Option.some.inj H
       have hcz8_0 : wr.cell? ⟨gb146, 0, none⟩ = some (.int .i64 a1_0) := (blk_cell BK146.out 0).trans rfl
       have hcz8_1 : wr.cell? ⟨gb146, 1, none⟩ = some (.int .i64 a1_1) := (blk_cell BK146.out 1).trans rfl
       have hfz8_0 := blk_frozen BK146.out 0
       have hfz8_1 := blk_frozen BK146.out 1
       have p147 : 0 ≤ (x8_1 : Int) := odt_
       have q147 : x8_1 < (l0.length : Int) := odt_
       obtain ⟨ad147, e147, hx147_0, hx147_1⟩ := at_T32 HR0.out x8_1 p147 q147
       cases e147
       (first | replace hx147_0 := (HB.out.cell (World.block_lt_of_cell? w _ hx147_0)).trans hx147_0 | skip)
       (first | replace hx147_1 := (HB.out.cell (World.block_lt_of_cell? w _ hx147_1)).trans hx147_1 | skip)
       replace p147 := eq_true p147
       replace q147 := eq_true q147
       go_wp2
       repeat (go_quiet (fail); try go_wp2)
       go_ret
       exact ⟨by first | rfl | (simp [errW_none, errW_some] <;> rfl) | (simp [*, errW_none, errW_some] <;> rfl), by repeat (first | (with_reducible first | exact HB.out | apply below_alloc | apply pw_below_drewN | apply below_drew1 | refine below_set ?_ GE146.out) | exact HB.out)⟩
      ·rw [if_neg c7] at H
       have c7b0 : (a1_0 == ((rd_T32 l0 x8_1).f0) && (a1_1 == ((rd_T32 l0 x8_1).f1))) = false := by simpa using c7
       (try (have c7b1 : decide (a1_0 = ((rd_T32 l0 x8_1).f0) && (a1_1 == ((rd_T32 l0 x8_1).f1))) = false := by simpa using c7))
       (try (have c7b2 : (a1_0 == ((rd_T32 l0 x8_1).f0) && (a1_1 == ((rd_T32 l0 x8_1).f1))) = false := by simpa using c7))
       (try (have c7b3 : ¬ (a1_0 = ((rd_T32 l0 x8_1).f0) && (a1_1 == ((rd_T32 l0 x8_1).f1))) := by simpa using c7))
       clear c7
       have H' := Aside0.mk H
       clear H
       have hcz9_0 : wr.cell? ⟨gb146, 0, none⟩ = some (.int .i64 a1_0) := (blk_cell BK146.out 0).trans rfl
       have hcz9_1 : wr.cell? ⟨gb146, 1, none⟩ = some (.int .i64 a1_1) := (blk_cell BK146.out 1).trans rfl
       have hfz9_0 := blk_frozen BK146.out 0
       have hfz9_1 := blk_frozen BK146.out 1
       have p147 : 0 ≤ (x8_1 : Int) := odt_
       have q147 : x8_1 < (l0.length : Int) := odt_
       obtain ⟨ad147, e147, hx147_0, hx147_1⟩ := at_T32 HR0.out x8_1 p147 q147
       cases e147
       (first | replace hx147_0 := (HB.out.cell (World.block_lt_of_cell? w _ hx147_0)).trans hx147_0 | skip)
       (first | replace hx147_1 := (HB.out.cell (World.block_lt_of_cell? w _ hx147_1)).trans hx147_1 | skip)
       replace p147 := eq_true p147
       replace q147 := eq_true q147
       go_wp2
       repeat (go_quiet (fail); try go_wp2)
       go_roundg k1
       case measure => have := HK1.out; omega
       case rel => exact ⟨(wrap64 (x8_1 + 1)), (by first | rfl | (simp; done) | (simp [*]; done)), H', ⟨by have := HK1.out; omega⟩, ⟨bk_ BK146.out⟩, ⟨by repeat (first | (with_reducible first | exact HB.out | apply below_alloc | apply pw_below_drewN | apply below_drew1 | refine below_set ?_ GE146.out) | exact HB.out)⟩⟩
     ·rw [if_neg c6] at H
      exact absurd H (by simp)
    ·rw [if_neg c5] at H
     exact absurd H (by simp)
   ·rw [if_neg c4] at H
    have c4b0 : decide (x8_1 < (l0.length : Int)) = false := decide_eq_false c4
    clear c4
    obtain rfl := Option.some.inj H
    go_wp2
    repeat (go_quiet (fail); try go_wp2)
    go_ret
    exact ⟨by first | rfl | (simp [errW_none, errW_some] <;> rfl) | (simp [*, errW_none, errW_some] <;> rfl), by repeat (first | (with_reducible first | exact HB.out | apply below_alloc | apply pw_below_drewN | apply below_drew1 | refine below_set ?_ GE146.out) | exact HB.out)⟩

/-! ### impl_NextFarey: function 24 -/
def impl_NextFarey.j0 : Nat → Int → Bool → Int → Int → Option (Int × Int × Bool)
 | 0, _, _, _, _ => none
 | k + 1, x1, x15, x149000, x149001 => if x15 = true then (some (0, 0, false)) else ((impl_farey.f k x1).bind fun t152 => ((impl_Fraction_61.f k t152 x149000 x149001).bind fun t155 => (if t155 < 0 then (some (0, 0, false)) else (if t155 = (wrap64 ((t152.length : Int) - 1)) then (some (0, 0, false)) else (if 0 ≤ (wrap64 (t155 + 1)) then (if (wrap64 (t155 + 1)) < (t152.length : Int) then (some ((rd_T32 t152 (wrap64 (t155 + 1))).f0, (rd_T32 t152 (wrap64 (t155 + 1))).f1, true)) else (none)) else (none))))))
def impl_NextFarey.f (k : Nat) (a0_0 : Int) (a0_1 : Int) (a1 : Int) : Option (Int × Int × Bool) := (impl_IsFraction.f k a0_0 a0_1).bind fun t150 => (if t150 = true then ((impl_isDen.f a1).bind fun t151 => (impl_NextFarey.j0 k a1 (!t151) a0_0 a0_1)) else (impl_NextFarey.j0 k a1 true a0_0 a0_1))
theorem impl_NextFarey.mono_l : ∀ k, (∀ y0 y1 y2 y3, LeO (impl_NextFarey.j0 k y0 y1 y2 y3) (impl_NextFarey.j0 (k + 1) y0 y1 y2 y3))
 | 0 => fun _ _ _ _ r h => by simp [impl_NextFarey.j0] at h
 | k + 1 => by
  have ih0 := impl_NextFarey.mono_l k
  ·intro y0 y1 y2 y3
   unfold impl_NextFarey.j0
   repeat' first
   | (with_reducible exact ih0 _ _ _ _)
   | (with_reducible exact impl_Fraction_61.mono _ _ _ _)
   | (with_reducible exact impl_IsFraction.mono _ _ _)
   | (with_reducible exact impl_farey.mono _ _)
   | (with_reducible exact LeO.refl _)
   | (with_reducible exact LeO.none _)
   | (with_reducible refine LeO.ite ?_ ?_)
   | (with_reducible refine LeO.bind ?_ (fun _ => ?_))
   | exact ih0 _ _ _ _
   | exact impl_Fraction_61.mono _ _ _ _
   | exact impl_IsFraction.mono _ _ _
   | exact impl_farey.mono _ _
   | exact LeO.none _
   | refine LeO.ite ?_ ?_
   | refine LeO.bind ?_ (fun _ => ?_)
theorem impl_NextFarey.mono : ∀ a0 a1 a2 k, LeO (impl_NextFarey.f k a0 a1 a2) (impl_NextFarey.f (k + 1) a0 a1 a2) := by
 intro a0 a1 a2 k
 have ih0 := impl_NextFarey.mono_l k
 unfold impl_NextFarey.f
 repeat' first
   | (with_reducible exact ih0 _ _ _ _)
   | (with_reducible exact impl_Fraction_61.mono _ _ _ _)
   | (with_reducible exact impl_IsFraction.mono _ _ _)
   | (with_reducible exact impl_farey.mono _ _)
   | (with_reducible exact LeO.refl _)
   | (with_reducible exact LeO.none _)
   | (with_reducible refine LeO.ite ?_ ?_)
   | (with_reducible refine LeO.bind ?_ (fun _ => ?_))
   | exact ih0 _ _ _ _
   | exact impl_Fraction_61.mono _ _ _ _
   | exact impl_IsFraction.mono _ _ _
   | exact impl_farey.mono _ _
   | exact LeO.none _
   | refine LeO.ite ?_ ?_
   | refine LeO.bind ?_ (fun _ => ?_)
set_option maxHeartbeats 8000000 in
set_option maxRecDepth 100000 in
theorem impl_NextFarey.calls (k : Nat) (a0_0 : Int) (a0_1 : Int) (a1 : Int) (r1 : Int) (r2 : Int) (r3 : Bool) (w : World) (h : impl_NextFarey.f k a0_0 a0_1 a1 = some (r1, r2, r3)) :
  Calls Try.prog 24 #[.agg #[.int .i64 a0_0, .int .i64 a0_1], .int .i64 a1] w fun e w' => e = .returned (.tuple #[.agg #[.int .i64 r1, .int .i64 r2], .bool r3]) ∧ Below w.heap.size w w' := by
 have hu32 := Try.underlying32
 have HB := Aside0.mk (Below.refl w.heap.size w)
 have H : ((impl_IsFraction.f k a0_0 a0_1).bind fun t150 => (if t150 = true then ((impl_isDen.f a1).bind fun t151 => (impl_NextFarey.j0 k a1 (!t151) a0_0 a0_1)) else (impl_NextFarey.j0 k a1 true a0_0 a0_1))) = some (r1, r2, r3) := h
 clear h
 have HC3 := Aside0.mk H
 clear H
 go_enter Try.func24, Try.ntmps24
 go_upto_region 1 with (first | ((with_reducible refine gate_dst (N := 2) rfl ?_); (try (refine gate_guard (by rfl) ?_; dsimp only)); refine box_event ?hg (N := 2) ?hd (cs := #[.int .i64 a0_0, .int .i64 a0_1]) (t := 32) ?hr ?_; (case hd => rfl); (case hg => rfl); (case hr => first | (go_simp; done) | (go_simp; rfl)); intro gb148 hg w4 hbox hb; have n0_ := Aside0.mk (below_step blw_ hb); have n1_ := Aside0.mk (hbox); have n2_ := Aside0.mk ((by rw [hg]; exact (below_size blw_) : w.heap.size ≤ gb148)); have n3_ := Aside0.mk ((by rw [hg]; exact (below_size blw_) : w.heap.size ≤ gb148)); clear HB; have HB := n0_; have BK148 := n1_; have GW148 := n2_; have GE148 := n3_; clear n0_ n1_ n2_ n3_; clear hb hbox hg) | ((with_reducible refine gate_dst (N := 4) rfl ?_); (try (refine gate_guard (by rfl) ?_; dsimp only)); refine box_event ?hg (N := 4) ?hd (cs := #[.int .i64 0, .int .i64 0]) (t := 32) ?hr ?_; (case hd => rfl); (case hg => rfl); (case hr => first | (go_simp; done) | (go_simp; rfl)); intro gb149 hg w5 hbox hb; have n0_ := Aside0.mk (blk_below (g := gb148) (o := .cells #[.int .i64 a0_0, .int .i64 a0_1] 32 (0, 0)) (bk_ BK148.out) hb); have n1_ := Aside0.mk (below_step (by repeat (first | (with_reducible first | exact HB.out | apply below_alloc | apply pw_below_drewN | apply below_drew1 | refine below_set ?_ GE148.out) | exact HB.out)) hb); have n2_ := Aside0.mk (hbox); have n3_ := Aside0.mk ((by rw [hg]; exact (below_size (by repeat (first | (with_reducible first | exact HB.out | apply below_alloc | apply pw_below_drewN | apply below_drew1 | refine below_set ?_ GE148.out) | exact HB.out))) : w.heap.size ≤ gb149)); have n4_ := Aside0.mk ((by rw [hg]; exact (below_size (by repeat (first | (with_reducible first | exact HB.out | apply below_alloc | apply pw_below_drewN | apply below_drew1 | refine below_set ?_ GE148.out) | exact HB.out))) : w.heap.size ≤ gb149)); have n5_ := Aside0.mk ((by rw [hg]; exact Nat.ne_of_lt (blk_lt (g := gb148) (o := .cells #[.int .i64 a0_0, .int .i64 a0_1] 32 (0, 0)) (bk_ BK148.out)) : gb148 ≠ gb149)); have n6_ := Aside0.mk ((by rw [hg]; exact Nat.ne_of_gt (blk_lt (g := gb148) (o := .cells #[.int .i64 a0_0, .int .i64 a0_1] 32 (0, 0)) (bk_ BK148.out)) : gb149 ≠ gb148)); clear BK148; clear HB; have BK148 := n0_; have HB := n1_; have BK149 := n2_; have GW149 := n3_; have GE149 := n4_; have NB148_149 := n5_; have NB149_148 := n6_; clear n0_ n1_ n2_ n3_ n4_ n5_ n6_; clear hb hbox hg))
 (try simp only [Act.put, List.setIfInBounds_toArray, List.set_cons_zero, List.set_cons_succ])
 go_cut [15] (fun v15 wc => ∃ (kq : Nat) (x15_2 : Bool), v15 = .bool x15_2 ∧ Aside0 (impl_NextFarey.j0 kq a1 x15_2 a0_0 a0_1 = some (r1, r2, r3)) ∧ Aside0 (kq ≤ k) ∧ Aside0 (wc.heap[gb148]? = some (.cells #[.int .i64 a0_0, .int .i64 a0_1] 32 (0, 0))) ∧ Aside0 (wc.heap[gb149]? = some (.cells #[.int .i64 0, .int .i64 0] 32 (0, 0))) ∧ Aside0 (Below w.heap.size w wc))
 case first =>
  have H := HC3.out
  clear HC3
  replace H := Option.bind_eq_some_iff.mp H
  obtain ⟨t150, A60, H⟩ := H
  replace H : (if t150 = true then ((impl_isDen.f a1).bind fun t151 => (impl_NextFarey.j0 k a1 (!t151) a0_0 a0_1)) else (impl_NextFarey.j0 k a1 true a0_0 a0_1)) = some (r1, r2, r3) := H
  have A6 := Aside0.mk A60
  clear A60
  by_cases c7 : t150 = true
  ·subst c7
   have H1 : ((impl_isDen.f a1).bind fun t151 => (impl_NextFarey.j0 k a1 (!t151) a0_0 a0_1)) = some (r1, r2, r3) := by rw [if_pos rfl] at H; exact H
   clear H
   have H := H1
   clear H1
   replace H := Option.bind_eq_some_iff.mp H
   obtain ⟨t151, A80, H⟩ := H
   replace H : (impl_NextFarey.j0 k a1 (!t151) a0_0 a0_1) = some (r1, r2, r3) := H
   have A8 := Aside0.mk A80
   clear A80
   have H' := Aside0.mk H
   clear H
   have hnb9 := NB148_149.out
   have hnc9 := NB149_148.out
   have hcz10_0 : w5.cell? ⟨gb148, 0, none⟩ = some (.int .i64 a0_0) := (blk_cell BK148.out 0).trans rfl
   have hcz10_1 : w5.cell? ⟨gb148, 1, none⟩ = some (.int .i64 a0_1) := (blk_cell BK148.out 1).trans rfl
   have hfz10_0 := blk_frozen BK148.out 0
   have hfz10_1 := blk_frozen BK148.out 1
   go_wp2_with (first | ((with_reducible refine gate_callee (f := 60) rfl ?_); refine goesL_ (some 9) rfl rfl Try.func60 (by kernel_rfl) rfl #[.agg #[.int .i64 a0_0, .int .i64 a0_1]] rfl amp_ ?_; (with_reducible refine (impl_IsFraction.calls k a0_0 a0_1 true _ A6.out).mono ?_); rintro e w11 ⟨rfl, hb⟩; refine ⟨_, rfl, ?_⟩; have n0_ := Aside0.mk (blk_below (g := gb148) (o := .cells #[.int .i64 a0_0, .int .i64 a0_1] 32 (0, 0)) (bk_ BK148.out) hb); have n1_ := Aside0.mk (blk_below (g := gb149) (o := .cells #[.int .i64 0, .int .i64 0] 32 (0, 0)) (bk_ BK149.out) hb); have n2_ := Aside0.mk (below_step (by repeat (first | (with_reducible first | exact HB.out | apply below_alloc | apply pw_below_drewN | apply below_drew1 | refine below_set ?_ GE148.out | refine below_set ?_ GE149.out) | exact HB.out)) hb); clear BK148; clear BK149; clear HB; have BK148 := n0_; have BK149 := n1_; have HB := n2_; clear n0_ n1_ n2_; (try clear hb); (try clear hb2); (try clear hk); (try clear hi)) | (go_at_call 57; (with_reducible refine (impl_isDen.calls a1 t151 _ A8.out).mono ?_); rintro e w' ⟨rfl, ⟨nd, rfl⟩⟩))
   go_meet
   case rel => exact ⟨_, (!t151), (by first | rfl | (simp; done) | (simp [*]; done)), H', ⟨by first | omega | exact Nat.le_refl _⟩, ⟨bk_ BK148.out⟩, ⟨bk_ BK149.out⟩, ⟨by repeat (first | (with_reducible first | exact HB.out | apply below_alloc | apply pw_below_drewN | apply below_drew1 | refine below_set ?_ GE148.out | refine below_set ?_ GE149.out) | exact HB.out)⟩⟩
  ·replace c7 := Bool.eq_false_iff.mpr c7
   subst c7
   have H1 : (impl_NextFarey.j0 k a1 true a0_0 a0_1) = some (r1, r2, r3) := by rw [if_neg (show ¬ (false = true) by decide)] at H; exact H
   clear H
   have H := H1
   clear H1
   have H' := Aside0.mk H
   clear H
   have hnb12 := NB148_149.out
   have hnc12 := NB149_148.out
   have hcz13_0 : w5.cell? ⟨gb148, 0, none⟩ = some (.int .i64 a0_0) := (blk_cell BK148.out 0).trans rfl
   have hcz13_1 : w5.cell? ⟨gb148, 1, none⟩ = some (.int .i64 a0_1) := (blk_cell BK148.out 1).trans rfl
   have hfz13_0 := blk_frozen BK148.out 0
   have hfz13_1 := blk_frozen BK148.out 1
   go_wp2_with (first | ((with_reducible refine gate_callee (f := 60) rfl ?_); refine goesL_ (some 9) rfl rfl Try.func60 (by kernel_rfl) rfl #[.agg #[.int .i64 a0_0, .int .i64 a0_1]] rfl amp_ ?_; (with_reducible refine (impl_IsFraction.calls k a0_0 a0_1 false _ A6.out).mono ?_); rintro e w14 ⟨rfl, hb⟩; refine ⟨_, rfl, ?_⟩; have n0_ := Aside0.mk (blk_below (g := gb148) (o := .cells #[.int .i64 a0_0, .int .i64 a0_1] 32 (0, 0)) (bk_ BK148.out) hb); have n1_ := Aside0.mk (blk_below (g := gb149) (o := .cells #[.int .i64 0, .int .i64 0] 32 (0, 0)) (bk_ BK149.out) hb); have n2_ := Aside0.mk (below_step (by repeat (first | (with_reducible first | exact HB.out | apply below_alloc | apply pw_below_drewN | apply below_drew1 | refine below_set ?_ GE148.out | refine below_set ?_ GE149.out) | exact HB.out)) hb); clear BK148; clear BK149; clear HB; have BK148 := n0_; have BK149 := n1_; have HB := n2_; clear n0_ n1_ n2_; (try clear hb); (try clear hb2); (try clear hk); (try clear hi)))
   go_meet
   case rel => exact ⟨_, (true), (by first | rfl | (simp; done) | (simp [*]; done)), H', ⟨by first | omega | exact Nat.le_refl _⟩, ⟨bk_ BK148.out⟩, ⟨bk_ BK149.out⟩, ⟨by repeat (first | (with_reducible first | exact HB.out | apply below_alloc | apply pw_below_drewN | apply below_drew1 | refine below_set ?_ GE148.out | refine below_set ?_ GE149.out) | exact HB.out)⟩⟩
 case rest =>
  clear HC3
  try clear c1
  try clear c2
  try clear p2
  try clear c6
  try clear c7
  try clear c9
  try clear c12
  try clear hcz10_0
  try clear hcz10_1
  try clear hcz13_0
  try clear hcz13_1
  try clear hfz10_0
  try clear hfz10_1
  try clear hfz13_0
  try clear hfz13_1
  obtain ⟨kq, x15_2, rfl, HA, HJ2, BK148, BK149, HB⟩ := hcut
  cases kq with
  | zero => exact absurd HA.out (by simp [impl_NextFarey.j0])
  | succ kj2 =>
   have H := HA.out
   clear HA
   simp only [impl_NextFarey.j0] at H
   by_cases c15 : x15_2 = true
   ·subst c15
    have H1 : (some (0, 0, false)) = some (r1, r2, r3) := by rw [if_pos rfl] at H; exact H
    clear H
    have H := H1
    clear H1
    simp only [Option.some.injEq, Prod.mk.injEq] at H
    obtain ⟨rfl, rfl, rfl⟩ := H
    have hnb16 := NB149_148.out
    have hnc16 := NB148_149.out
    have hcz17_0 : wc.cell? ⟨gb149, 0, none⟩ = some (.int .i64 0) := (blk_cell BK149.out 0).trans rfl
    have hcz17_1 : wc.cell? ⟨gb149, 1, none⟩ = some (.int .i64 0) := (blk_cell BK149.out 1).trans rfl
    have hfz17_0 := blk_frozen BK149.out 0
    have hfz17_1 := blk_frozen BK149.out 1
    go_wp2
    refine bodyPost_ret (results_ct rfl _ _ gb149 32 #[.int .i64 0, .int .i64 0] (0, 0) _ rfl (by (with_reducible repeat (first | refine blk_drewN ?_ _ | refine blk_drew ?_ | refine blk_alloc ?_ _)); refine blk_put (cs := #[.int .i64 0, .int .i64 0]) ?_ 1 _ rfl; (with_reducible repeat (first | refine blk_drewN ?_ _ | refine blk_drew ?_ | refine blk_alloc ?_ _)); refine blk_put (cs := #[.int .i64 0, .int .i64 0]) ?_ 0 _ rfl; (with_reducible repeat (first | refine blk_drewN ?_ _ | refine blk_drew ?_ | refine blk_alloc ?_ _)); exact BK149.out) Try.underlying32 rfl (by kernel_rfl)) rfl ?_
    exact ⟨by first | rfl | (simp [errW_none, errW_some] <;> rfl) | (simp [*, errW_none, errW_some] <;> rfl), by repeat (first | (with_reducible first | exact HB.out | apply below_alloc | apply pw_below_drewN | apply below_drew1 | refine below_set ?_ GE148.out | refine below_set ?_ GE149.out) | exact HB.out)⟩
   ·replace c15 := Bool.eq_false_iff.mpr c15
    subst c15
    have H1 : ((impl_farey.f kj2 a1).bind fun t152 => ((impl_Fraction_61.f kj2 t152 a0_0 a0_1).bind fun t155 => (if t155 < 0 then (some (0, 0, false)) else (if t155 = (wrap64 ((t152.length : Int) - 1)) then (some (0, 0, false)) else (if 0 ≤ (wrap64 (t155 + 1)) then (if (wrap64 (t155 + 1)) < (t152.length : Int) then (some ((rd_T32 t152 (wrap64 (t155 + 1))).f0, (rd_T32 t152 (wrap64 (t155 + 1))).f1, true)) else (none)) else (none)))))) = some (r1, r2, r3) := by rw [if_neg (show ¬ (false = true) by decide)] at H; exact H
    clear H
    have H := H1
    clear H1
    replace H := Option.bind_eq_some_iff.mp H
    obtain ⟨t152, A180, H⟩ := H
    replace H : ((impl_Fraction_61.f kj2 t152 a0_0 a0_1).bind fun t155 => (if t155 < 0 then (some (0, 0, false)) else (if t155 = (wrap64 ((t152.length : Int) - 1)) then (some (0, 0, false)) else (if 0 ≤ (wrap64 (t155 + 1)) then (if (wrap64 (t155 + 1)) < (t152.length : Int) then (some ((rd_T32 t152 (wrap64 (t155 + 1))).f0, (rd_T32 t152 (wrap64 (t155 + 1))).f1, true)) else (none)) else (none))))) = some (r1, r2, r3) := H
    have A18 := Aside0.mk A180
    clear A180
    replace H := Option.bind_eq_some_iff.mp H
    obtain ⟨t155, A190, H⟩ := H
    replace H : (if t155 < 0 then (some (0, 0, false)) else (if t155 = (wrap64 ((t152.length : Int) - 1)) then (some (0, 0, false)) else (if 0 ≤ (wrap64 (t155 + 1)) then (if (wrap64 (t155 + 1)) < (t152.length : Int) then (some ((rd_T32 t152 (wrap64 (t155 + 1))).f0, (rd_T32 t152 (wrap64 (t155 + 1))).f1, true)) else (none)) else (none)))) = some (r1, r2, r3) := H
    have A19 := Aside0.mk A190
    clear A190
    by_cases c20 : t155 < 0
    ·rw [if_pos c20] at H
     have c20b0 : decide (t155 < 0) = true := decide_eq_true c20
     clear c20
     simp only [Option.some.injEq, Prod.mk.injEq] at H
     obtain ⟨rfl, rfl, rfl⟩ := H
     go_wp2_with (first | ((with_reducible refine gate_callee (f := 58) rfl ?_); refine goesL_ (some 18) rfl rfl Try.func58 (by kernel_rfl) rfl #[.int .i64 a1] rfl amp_ ?_; (with_reducible refine (impl_farey.calls kj2 a1 t152 _ A18.out).mono ?_); rintro e w21 ⟨v153, rfl, ho0, hb⟩; refine ⟨_, rfl, ?_⟩; have n0_ := Aside0.mk (Kd.R_lower (Kd.R_newB (Kd.R_newB ho0 (g := gb148) (o := .cells #[.int .i64 a0_0, .int .i64 a0_1] 32 (0, 0)) (bk_ BK148.out)) (g := gb149) (o := .cells #[.int .i64 0, .int .i64 0] 32 (0, 0)) (bk_ BK149.out)) (below_size (by repeat (first | (with_reducible first | exact HB.out | apply below_alloc | apply pw_below_drewN | apply below_drew1 | refine below_set ?_ GE148.out | refine below_set ?_ GE149.out) | exact HB.out)))); have n1_ := Aside0.mk (blk_below (g := gb148) (o := .cells #[.int .i64 a0_0, .int .i64 a0_1] 32 (0, 0)) (bk_ BK148.out) hb); have n2_ := Aside0.mk (blk_below (g := gb149) (o := .cells #[.int .i64 0, .int .i64 0] 32 (0, 0)) (bk_ BK149.out) hb); have n3_ := Aside0.mk (below_step (by repeat (first | (with_reducible first | exact HB.out | apply below_alloc | apply pw_below_drewN | apply below_drew1 | refine below_set ?_ GE148.out | refine below_set ?_ GE149.out) | exact HB.out)) hb); clear BK148; clear BK149; clear HB; have HO154 := n0_; have BK148 := n1_; have BK149 := n2_; have HB := n3_; clear n0_ n1_ n2_ n3_; (try clear hb); (try clear hb2); (try clear hk); (try clear hi); (try clear ho0); have hnb22 := NB148_149.out; have hnc22 := NB149_148.out; have hcz23_0 : w21.cell? ⟨gb148, 0, none⟩ = some (.int .i64 a0_0) := (blk_cell BK148.out 0).trans rfl; have hcz23_1 : w21.cell? ⟨gb148, 1, none⟩ = some (.int .i64 a0_1) := (blk_cell BK148.out 1).trans rfl; have hfz23_0 := blk_frozen BK148.out 0; have hfz23_1 := blk_frozen BK148.out 1; obtain ⟨Ao24, co24, eo24⟩ := Kd.R_slice HO154.out; subst eo24) | ((with_reducible refine gate_callee (f := 61) rfl ?_); refine goesL_ (some 21) rfl rfl Try.func61 (by kernel_rfl) rfl #[.slice Ao24 t152.length co24, .agg #[.int .i64 a0_0, .int .i64 a0_1]] rfl amp_ ?_; (with_reducible refine (impl_Fraction_61.calls kj2 _ _ t152 a0_0 a0_1 t155 _ ?side1 ?side2 A19.out).mono ?_); (case side1 => repeat (first | exact (Kd.R_reads' HO154.out).2.2 | (with_reducible refine Kd.C_alloc ?_ _) | (with_reducible refine Kd.C_drewN ?_ _) | (with_reducible refine Kd.C_drew ?_))); (case side2 => exact (Kd.R_reads' HO154.out).2.1); rintro e w25 ⟨rfl, hb⟩; refine ⟨_, rfl, ?_⟩; have n0_ := Aside0.mk (Kd.R_below (ra_ HO154.out) hb); have n1_ := Aside0.mk (blk_below (g := gb148) (o := .cells #[.int .i64 a0_0, .int .i64 a0_1] 32 (0, 0)) (bk_ BK148.out) hb); have n2_ := Aside0.mk (blk_below (g := gb149) (o := .cells #[.int .i64 0, .int .i64 0] 32 (0, 0)) (bk_ BK149.out) hb); have n3_ := Aside0.mk (below_step (by repeat (first | (with_reducible first | exact HB.out | apply below_alloc | apply pw_below_drewN | apply below_drew1 | refine below_set ?_ GE148.out | refine below_set ?_ GE149.out) | exact HB.out)) hb); clear HO154; clear BK148; clear BK149; clear HB; have HO154 := n0_; have BK148 := n1_; have BK149 := n2_; have HB := n3_; clear n0_ n1_ n2_ n3_; (try clear hb); (try clear hb2); (try clear hk); (try clear hi); have hcz26_0 : w25.cell? ⟨gb149, 0, none⟩ = some (.int .i64 0) := (blk_cell BK149.out 0).trans rfl; have hcz26_1 : w25.cell? ⟨gb149, 1, none⟩ = some (.int .i64 0) := (blk_cell BK149.out 1).trans rfl; have hfz26_0 := blk_frozen BK149.out 0; have hfz26_1 := blk_frozen BK149.out 1))
     refine bodyPost_ret (results_ct rfl _ _ gb149 32 #[.int .i64 0, .int .i64 0] (0, 0) _ rfl (by (with_reducible repeat (first | refine blk_drewN ?_ _ | refine blk_drew ?_ | refine blk_alloc ?_ _)); refine blk_put (cs := #[.int .i64 0, .int .i64 0]) ?_ 1 _ rfl; (with_reducible repeat (first | refine blk_drewN ?_ _ | refine blk_drew ?_ | refine blk_alloc ?_ _)); refine blk_put (cs := #[.int .i64 0, .int .i64 0]) ?_ 0 _ rfl; (with_reducible repeat (first | refine blk_drewN ?_ _ | refine blk_drew ?_ | refine blk_alloc ?_ _)); exact BK149.out) Try.underlying32 rfl (by kernel_rfl)) rfl ?_
     exact ⟨by first | rfl | (simp [errW_none, errW_some] <;> rfl) | (simp [*, errW_none, errW_some] <;> rfl), by repeat (first | (with_reducible first | exact HB.out | apply below_alloc | apply pw_below_drewN | apply below_drew1 | refine below_set ?_ GE148.out | refine below_set ?_ GE149.out) | exact HB.out)⟩
    ·rw [if_neg c20] at H
     have c20b0 : decide (t155 < 0) = false := decide_eq_false c20
     clear c20
     by_cases c27 : t155 = (wrap64 ((t152.length : Int) - 1))
     ·rw [if_pos c27] at H
      have c27b0 : (t155 == (wrap64 ((t152.length : Int) - 1))) = true := beq_iff_eq.mpr c27
      have c27b1 : (t155 != (wrap64 ((t152.length : Int) - 1))) = false := bne_eq_false_iff_eq.mpr c27
      clear c27
      simp only [Option.some.injEq, Prod.mk.injEq] at H
      obtain ⟨rfl, rfl, rfl⟩ := H
      go_wp2_with (first | ((with_reducible refine gate_callee (f := 58) rfl ?_); refine goesL_ (some 18) rfl rfl Try.func58 (by kernel_rfl) rfl #[.int .i64 a1] rfl amp_ ?_; (with_reducible refine (impl_farey.calls kj2 a1 t152 _ A18.out).mono ?_); rintro e w28 ⟨v153, rfl, ho0, hb⟩; refine ⟨_, rfl, ?_⟩; have n0_ := Aside0.mk (Kd.R_lower (Kd.R_newB (Kd.R_newB ho0 (g := gb148) (o := .cells #[.int .i64 a0_0, .int .i64 a0_1] 32 (0, 0)) (bk_ BK148.out)) (g := gb149) (o := .cells #[.int .i64 0, .int .i64 0] 32 (0, 0)) (bk_ BK149.out)) (below_size (by repeat (first | (with_reducible first | exact HB.out | apply below_alloc | apply pw_below_drewN | apply below_drew1 | refine below_set ?_ GE148.out | refine below_set ?_ GE149.out) | exact HB.out)))); have n1_ := Aside0.mk (blk_below (g := gb148) (o := .cells #[.int .i64 a0_0, .int .i64 a0_1] 32 (0, 0)) (bk_ BK148.out) hb); have n2_ := Aside0.mk (blk_below (g := gb149) (o := .cells #[.int .i64 0, .int .i64 0] 32 (0, 0)) (bk_ BK149.out) hb); have n3_ := Aside0.mk (below_step (by repeat (first | (with_reducible first | exact HB.out | apply below_alloc | apply pw_below_drewN | apply below_drew1 | refine below_set ?_ GE148.out | refine below_set ?_ GE149.out) | exact HB.out)) hb); clear BK148; clear BK149; clear HB; have HO154 := n0_; have BK148 := n1_; have BK149 := n2_; have HB := n3_; clear n0_ n1_ n2_ n3_; (try clear hb); (try clear hb2); (try clear hk); (try clear hi); (try clear ho0); have hnb29 := NB148_149.out; have hnc29 := NB149_148.out; have hcz30_0 : w28.cell? ⟨gb148, 0, none⟩ = some (.int .i64 a0_0) := (blk_cell BK148.out 0).trans rfl; have hcz30_1 : w28.cell? ⟨gb148, 1, none⟩ = some (.int .i64 a0_1) := (blk_cell BK148.out 1).trans rfl; have hfz30_0 := blk_frozen BK148.out 0; have hfz30_1 := blk_frozen BK148.out 1; obtain ⟨Ao31, co31, eo31⟩ := Kd.R_slice HO154.out; subst eo31) | ((with_reducible refine gate_callee (f := 61) rfl ?_); refine goesL_ (some 21) rfl rfl Try.func61 (by kernel_rfl) rfl #[.slice Ao31 t152.length co31, .agg #[.int .i64 a0_0, .int .i64 a0_1]] rfl amp_ ?_; (with_reducible refine (impl_Fraction_61.calls kj2 _ _ t152 a0_0 a0_1 t155 _ ?side1 ?side2 A19.out).mono ?_); (case side1 => repeat (first | exact (Kd.R_reads' HO154.out).2.2 | (with_reducible refine Kd.C_alloc ?_ _) | (with_reducible refine Kd.C_drewN ?_ _) | (with_reducible refine Kd.C_drew ?_))); (case side2 => exact (Kd.R_reads' HO154.out).2.1); rintro e w32 ⟨rfl, hb⟩; refine ⟨_, rfl, ?_⟩; have n0_ := Aside0.mk (Kd.R_below (ra_ HO154.out) hb); have n1_ := Aside0.mk (blk_below (g := gb148) (o := .cells #[.int .i64 a0_0, .int .i64 a0_1] 32 (0, 0)) (bk_ BK148.out) hb); have n2_ := Aside0.mk (blk_below (g := gb149) (o := .cells #[.int .i64 0, .int .i64 0] 32 (0, 0)) (bk_ BK149.out) hb); have n3_ := Aside0.mk (below_step (by repeat (first | (with_reducible first | exact HB.out | apply below_alloc | apply pw_below_drewN | apply below_drew1 | refine below_set ?_ GE148.out | refine below_set ?_ GE149.out) | exact HB.out)) hb); clear HO154; clear BK148; clear BK149; clear HB; have HO154 := n0_; have BK148 := n1_; have BK149 := n2_; have HB := n3_; clear n0_ n1_ n2_ n3_; (try clear hb); (try clear hb2); (try clear hk); (try clear hi); have hcz33_0 : w32.cell? ⟨gb149, 0, none⟩ = some (.int .i64 0) := (blk_cell BK149.out 0).trans rfl; have hcz33_1 : w32.cell? ⟨gb149, 1, none⟩ = some (.int .i64 0) := (blk_cell BK149.out 1).trans rfl; have hfz33_0 := blk_frozen BK149.out 0; have hfz33_1 := blk_frozen BK149.out 1))
      refine bodyPost_ret (results_ct rfl _ _ gb149 32 #[.int .i64 0, .int .i64 0] (0, 0) _ rfl (by (with_reducible repeat (first | refine blk_drewN ?_ _ | refine blk_drew ?_ | refine blk_alloc ?_ _)); refine blk_put (cs := #[.int .i64 0, .int .i64 0]) ?_ 1 _ rfl; (with_reducible repeat (first | refine blk_drewN ?_ _ | refine blk_drew ?_ | refine blk_alloc ?_ _)); refine blk_put (cs := #[.int .i64 0, .int .i64 0]) ?_ 0 _ rfl; (with_reducible repeat (first | refine blk_drewN ?_ _ | refine blk_drew ?_ | refine blk_alloc ?_ _)); exact BK149.out) Try.underlying32 rfl (by kernel_rfl)) rfl ?_
      exact ⟨by first | rfl | (simp [errW_none, errW_some] <;> rfl) | (simp [*, errW_none, errW_some] <;> rfl), by repeat (first | (with_reducible first | exact HB.out | apply below_alloc | apply pw_below_drewN | apply below_drew1 | refine below_set ?_ GE148.out | refine below_set ?_ GE149.out) | exact HB.out)⟩
     ·rw [if_neg c27] at H
      have c27b0 : (t155 == (wrap64 ((t152.length : Int) - 1))) = false := beq_eq_false_iff_ne.mpr c27
      have c27b1 : (t155 != (wrap64 ((t152.length : Int) - 1))) = true := bne_iff_ne.mpr c27
      obtain ⟨ji34, hji34⟩ : ∃ j_ : Int, (wrap64 (t155 + 1)) = j_ := ⟨_, rfl⟩
      replace H : (if 0 ≤ (ji34) then (if (ji34) < (t152.length : Int) then (some ((rd_T32 t152 (ji34)).f0, (rd_T32 t152 (ji34)).f1, true)) else (none)) else (none)) = some (r1, r2, r3) := by first | (rw [hji34] at H; exact H) | (simp only [hji34] at H ⊢; exact H)
      (try rw [hji34] at A18)
      (try rw [hji34] at A19)
      have hji34w : (IntKind.i64.wrap (t155 + 1)) = ji34 := (i64_w _).trans hji34
      by_cases c35 : 0 ≤ (ji34)
      ·rw [if_pos c35] at H
       have c35b0 : decide (0 ≤ (ji34)) = true := decide_eq_true c35
       clear c35
       by_cases c36 : (ji34) < (t152.length : Int)
       ·rw [if_pos c36] at H
        have c36b0 : decide ((ji34) < (t152.length : Int)) = true := decide_eq_true c36
        clear c36
        simp only [Option.some.injEq, Prod.mk.injEq] at H
        obtain ⟨rfl, rfl, rfl⟩ := H
        go_wp2_with (first | ((with_reducible refine gate_callee (f := 58) rfl ?_); refine goesL_ (some 18) rfl rfl Try.func58 (by kernel_rfl) rfl #[.int .i64 a1] rfl amp_ ?_; (with_reducible refine (impl_farey.calls kj2 a1 t152 _ A18.out).mono ?_); rintro e w37 ⟨v153, rfl, ho0, hb⟩; refine ⟨_, rfl, ?_⟩; have n0_ := Aside0.mk (Kd.R_lower (Kd.R_newB (Kd.R_newB ho0 (g := gb148) (o := .cells #[.int .i64 a0_0, .int .i64 a0_1] 32 (0, 0)) (bk_ BK148.out)) (g := gb149) (o := .cells #[.int .i64 0, .int .i64 0] 32 (0, 0)) (bk_ BK149.out)) (below_size (by repeat (first | (with_reducible first | exact HB.out | apply below_alloc | apply pw_below_drewN | apply below_drew1 | refine below_set ?_ GE148.out | refine below_set ?_ GE149.out) | exact HB.out)))); have n1_ := Aside0.mk (blk_below (g := gb148) (o := .cells #[.int .i64 a0_0, .int .i64 a0_1] 32 (0, 0)) (bk_ BK148.out) hb); have n2_ := Aside0.mk (blk_below (g := gb149) (o := .cells #[.int .i64 0, .int .i64 0] 32 (0, 0)) (bk_ BK149.out) hb); have n3_ := Aside0.mk (below_step (by repeat (first | (with_reducible first | exact HB.out | apply below_alloc | apply pw_below_drewN | apply below_drew1 | refine below_set ?_ GE148.out | refine below_set ?_ GE149.out) | exact HB.out)) hb); clear BK148; clear BK149; clear HB; have HO154 := n0_; have BK148 := n1_; have BK149 := n2_; have HB := n3_; clear n0_ n1_ n2_ n3_; (try clear hb); (try clear hb2); (try clear hk); (try clear hi); (try clear ho0); have hnb38 := NB148_149.out; have hnc38 := NB149_148.out; have hcz39_0 : w37.cell? ⟨gb148, 0, none⟩ = some (.int .i64 a0_0) := (blk_cell BK148.out 0).trans rfl; have hcz39_1 : w37.cell? ⟨gb148, 1, none⟩ = some (.int .i64 a0_1) := (blk_cell BK148.out 1).trans rfl; have hfz39_0 := blk_frozen BK148.out 0; have hfz39_1 := blk_frozen BK148.out 1; obtain ⟨Ao40, co40, eo40⟩ := Kd.R_slice HO154.out; subst eo40) | ((with_reducible refine gate_callee (f := 61) rfl ?_); refine goesL_ (some 21) rfl rfl Try.func61 (by kernel_rfl) rfl #[.slice Ao40 t152.length co40, .agg #[.int .i64 a0_0, .int .i64 a0_1]] rfl amp_ ?_; (with_reducible refine (impl_Fraction_61.calls kj2 _ _ t152 a0_0 a0_1 t155 _ ?side1 ?side2 A19.out).mono ?_); (case side1 => repeat (first | exact (Kd.R_reads' HO154.out).2.2 | (with_reducible refine Kd.C_alloc ?_ _) | (with_reducible refine Kd.C_drewN ?_ _) | (with_reducible refine Kd.C_drew ?_))); (case side2 => exact (Kd.R_reads' HO154.out).2.1); rintro e w41 ⟨rfl, hb⟩; refine ⟨_, rfl, ?_⟩; have n0_ := Aside0.mk (Kd.R_below (ra_ HO154.out) hb); have n1_ := Aside0.mk (blk_below (g := gb148) (o := .cells #[.int .i64 a0_0, .int .i64 a0_1] 32 (0, 0)) (bk_ BK148.out) hb); have n2_ := Aside0.mk (blk_below (g := gb149) (o := .cells #[.int .i64 0, .int .i64 0] 32 (0, 0)) (bk_ BK149.out) hb); have n3_ := Aside0.mk (below_step (by repeat (first | (with_reducible first | exact HB.out | apply below_alloc | apply pw_below_drewN | apply below_drew1 | refine below_set ?_ GE148.out | refine below_set ?_ GE149.out) | exact HB.out)) hb); clear HO154; clear BK148; clear BK149; clear HB; have HO154 := n0_; have BK148 := n1_; have BK149 := n2_; have HB := n3_; clear n0_ n1_ n2_ n3_; (try clear hb); (try clear hb2); (try clear hk); (try clear hi); have p156 : 0 ≤ ((ji34) : Int) := odt_; have q156 : (ji34) < (t152.length : Int) := odt_; obtain ⟨ad156, e156, hx156_0, hx156_1⟩ := at_T32 (Kd.R_reads' HO154.out).2.2 (ji34) p156 q156; cases e156; replace p156 := eq_true p156; replace q156 := eq_true q156; have hcz42_0 : w41.cell? ⟨gb149, 0, none⟩ = some (.int .i64 0) := (blk_cell BK149.out 0).trans rfl; have hcz42_1 : w41.cell? ⟨gb149, 1, none⟩ = some (.int .i64 0) := (blk_cell BK149.out 1).trans rfl; have hfz42_0 := blk_frozen BK149.out 0; have hfz42_1 := blk_frozen BK149.out 1))
        refine bodyPost_ret (results_ct rfl _ _ gb149 32 #[.int .i64 ((rd_T32 t152 (ji34)).f0), .int .i64 ((rd_T32 t152 (ji34)).f1)] (0, 0) _ rfl (by (with_reducible repeat (first | refine blk_drewN ?_ _ | refine blk_drew ?_ | refine blk_alloc ?_ _)); refine blk_put (cs := #[.int .i64 ((rd_T32 t152 (ji34)).f0), .int .i64 0]) ?_ 1 _ rfl; (with_reducible repeat (first | refine blk_drewN ?_ _ | refine blk_drew ?_ | refine blk_alloc ?_ _)); refine blk_put (cs := #[.int .i64 0, .int .i64 0]) ?_ 0 _ rfl; (with_reducible repeat (first | refine blk_drewN ?_ _ | refine blk_drew ?_ | refine blk_alloc ?_ _)); exact BK149.out) Try.underlying32 rfl (by kernel_rfl)) rfl ?_
        exact ⟨by first | rfl | (simp [errW_none, errW_some] <;> rfl) | (simp only [← hji34]; first | rfl | (simp [errW_none, errW_some] <;> rfl)) | (simp [*, errW_none, errW_some] <;> rfl), by repeat (first | (with_reducible first | exact HB.out | apply below_alloc | apply pw_below_drewN | apply below_drew1 | refine below_set ?_ GE148.out | refine below_set ?_ GE149.out) | exact HB.out)⟩
       ·rw [if_neg c36] at H
        exact absurd H (by simp)
      ·rw [if_neg c35] at H
       exact absurd H (by simp)

end Go.Proofs.Ytnjejmfnacpdoaa.PFnExactNextFarey
