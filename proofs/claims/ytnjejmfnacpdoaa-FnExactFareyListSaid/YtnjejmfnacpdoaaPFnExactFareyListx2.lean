-- WRITTEN BY A PROGRAM OF THIS WORK (wip/tools/ppatch.py) for this claim.
import Derived.Test.YtnjejmfnacpdoaaPFnExactFareyListx0
import Derived.Test.YtnjejmfnacpdoaaPFnExactFareyListx1
namespace Go.Proofs.Ytnjejmfnacpdoaa.PFnExactFareyList
open Go.RowKit Go.Proofs.YtnjejmfnacpdoaaW.PrintWords Go.Proofs.YtnjejmfnacpdoaaW.PrintLast Go.Proofs.YtnjejmfnacpdoaaW.PrintMore
attribute [local go_sem] max2_int min2_int max_two min_two max_three min_three max_four min_four   -- for this text's walks alone
set_option linter.unusedVariables false
set_option linter.unusedSimpArgs false

/-! ### impl_Fraction: function 93 -/
-- needs: nothing (a row of k cells an element, sorted by the library: from Kd.R to HoldsK and back; imports Derived.Shelf.SlSortCmp.NoneTotal)
section
variable {α β : Type} [Inhabited α] {k : Nat} {enc : α → List Value} {val : α → β} {d : Kd β} {e : Nat}
/-- The cells of a row that is held, one by one. -/
theorem row_cell (hsz : d.sz = k) (hM : ∀ {w base ok x cs}, d.M w base ok (val x) cs → cs = enc x) {w : World} {base : Nat} {ok : Nat → Prop} {ys : List α} {inner : List Value} (hr : Reps (d.M w base ok) d.sz (ys.map val) inner) (t : Nat) (ht : t < ys.length * k) : inner[t]? = some (enc ys.toArray[t / k]!)[t % k]! := by
 have k0 : 0 < k := by
  rcases Nat.eq_zero_or_pos k with h | h
  ·subst h; omega
  ·exact h
 have hj : t / k < ys.length := by rw [Nat.div_lt_iff_lt_mul k0]; exact ht
 have hc : t % k < k := Nat.mod_lt _ k0
 have h1 := hM (hr.2 (t / k) (val ys[t / k]) (by simp [hj]))
 have hlen : (enc ys[t / k]).length = k := by
  rw [← h1, List.length_take, List.length_drop, hr.1, hsz, List.length_map]
  have := Nat.mul_le_mul_right k (show t / k + 1 ≤ ys.length from hj)
  rw [Nat.add_mul, Nat.one_mul] at this
  omega
 have h2 : (enc ys[t / k])[t % k]? = inner[t / k * k + t % k]? := by
  rw [← h1, hsz, List.getElem?_take_of_lt hc, List.getElem?_drop]
 rw [Nat.div_add_mod' t k] at h2
 rw [← h2]
 simp [hj, hlen, hc]
theorem holdsK_of (hsz : d.sz = k) (hM : ∀ {w base ok x cs}, d.M w base ok (val x) cs → cs = enc x) {w : World} {base g : Nat} {ok : Nat → Prop} {ys : List α} {cur : Array Value} (hb : w.heap[g]? = some (.cells cur e (0, 0))) (hr : Reps (d.M w base ok) d.sz (ys.map val) (cur.toList.take (ys.length * d.sz))) : Go.Sort.HoldsK enc k w g 0 ys.toArray := by
 intro t h
 have h' : t < ys.length * k := by simpa using h
 have hc := row_cell hsz hM hr t h'
 rw [List.getElem?_take_of_lt (by rw [hsz]; exact h'), Array.getElem?_toList] at hc
 refine ⟨?_, by simp [World.frozen?, hb]⟩
 rw [Go.Sort.get_flatK _ _ _ _ (by simpa using h)]
 simp only [World.cell?, hb, Nat.zero_add, id]
 simp only [Option.isSome_none, Bool.false_eq_true, if_false]
 exact hc
theorem heap_sortedK {w : World} {g n : Nat} {os : Array Obj} {cur : Array Value} {fr : Nat × Nat} (D : Array α) (hb : w.heap[g]? = some (.cells cur e fr)) :
  (sortWorldK enc k w g 0 n D os).heap[g]? = some (.cells (Go.Sort.putCells id 0 (Go.Sort.flatK enc k D) cur) e fr) := by
 have hg : g < w.heap.size := (Array.getElem?_eq_some_iff.1 hb).1
 unfold sortWorldK Go.Sort.putRowK
 rw [Go.Sort.heap_grow_old _ _ (by simpa using hg)]
 simp [Go.Sort.putRow, Go.Sort.mapBlock, Go.Sort.ahead, Array.getElem?_modify, hb, Go.Sort.onCells]
theorem grownBy_sortedK {w : World} {g n : Nat} {os : Array Obj} (D : Array α) : w.grownBy (sortWorldK enc k w g 0 n D os) (some g) := by
 unfold sortWorldK Go.Sort.putRowK
 refine ⟨rfl, rfl, rfl, by simp, fun j hk hne => ?_⟩
 rw [Go.Sort.heap_grow_old _ _ (by simpa using hk)]
 have : g ≠ j := fun e => hne (by rw [e])
 simp [Go.Sort.putRow, Go.Sort.mapBlock, Go.Sort.ahead, Array.getElem?_modify, this]
theorem take_putCellsK (cur : Array Value) (F : Array Value) (h : F.size ≤ cur.size) : (Go.Sort.putCells id 0 F cur).toList.take F.size = F.toList := by
 apply List.ext_getElem?
 intro j
 by_cases hj : j < F.size
 ·rw [List.getElem?_take_of_lt hj, Array.getElem?_toList]
  simp [Go.Sort.putCells, hj, show j < cur.size by omega]
 ·rw [List.getElem?_take_eq_none (by omega), List.getElem?_eq_none (by simp; omega)]
theorem flat_take (hlen : ∀ x, (enc x).length = k) (ys : List α) (j : Nat) (p : α) (hp : ys[j]? = some p) : ((Go.Sort.flatK enc k ys.toArray).toList.drop (j * k)).take k = enc p := by
 obtain ⟨hj, rfl⟩ := List.getElem?_eq_some_iff.1 hp
 have h2 := Nat.mul_le_mul_right k (show j + 1 ≤ ys.length from hj)
 rw [Nat.add_mul, Nat.one_mul] at h2
 apply List.ext_getElem?
 intro c
 by_cases hc : c < k
 ·have hk : 0 < k := by omega
  rw [List.getElem?_take_of_lt hc, List.getElem?_drop, Array.getElem?_toList]
  have hlt : j * k + c < (Go.Sort.flatK enc k ys.toArray).size := by simp; omega
  rw [Array.getElem?_eq_getElem hlt, ← getElem!_pos (Go.Sort.flatK enc k ys.toArray) (j * k + c) hlt, Go.Sort.get_flatK _ _ _ _ (by simpa using hlt)]
  have e1 : (j * k + c) / k = j := by rw [Nat.mul_comm, Nat.mul_add_div hk, Nat.div_eq_of_lt hc, Nat.add_zero]
  have e2 : (j * k + c) % k = c := by rw [Nat.mul_comm, Nat.mul_add_mod, Nat.mod_eq_of_lt hc]
  rw [e1, e2]
  have hl := hlen ys[j]
  simp [hj, hl, hc]
 ·rw [List.getElem?_take_eq_none (by omega), List.getElem?_eq_none (by rw [hlen]; omega)]
/-- A row of the call's own, sorted. -/
theorem R_sortedK (hsz : d.sz = k) (hlen : ∀ x, (enc x).length = k) (hM : ∀ {w base ok x cs}, d.M w base ok (val x) cs → cs = enc x) (hM' : ∀ {w base ok x}, d.M w base ok (val x) (enc x)) {w : World} {base : Nat} {ok : Nat → Prop} {v : Value} {ys zs : List α} (h : d.R e w base ok v (ys.map val)) (h0 : ys ≠ []) (hl : zs.length = ys.length) :
  ∃ g c, v = .slice (some ⟨g, 0, none⟩) ys.length c ∧ base ≤ g ∧ ok g ∧ g < w.heap.size ∧ ys.length ≤ maxLen ∧ Go.Sort.HoldsK enc k w g 0 ys.toArray ∧ ∀ n os, d.R e (sortWorldK enc k w g 0 n zs.toArray os) base ok v (zs.map val) := by
 obtain ⟨h1, inner, ho, hr⟩ := h
 obtain ⟨hi, ho⟩ := ho
 rcases ho with ⟨_, ho⟩ | ⟨g, c, cur, rfl, hg, hb, h2, h3, h4, h5⟩
 ·rw [List.length_map] at ho
  exact absurd (List.eq_nil_of_length_eq_zero ho) h0
 ·rw [List.length_map] at h2 h5 hi
  refine ⟨g, c, by rw [List.length_map], hg, h1 g rfl, (Array.getElem?_eq_some_iff.1 hb).1, Nat.le_trans h2 h3, ?_, ?_⟩
  ·subst h5
   exact holdsK_of hsz hM hb hr
  ·intro n os
   have hfs : (Go.Sort.flatK enc k zs.toArray).size = ys.length * k := by simp [hl]
   have hcz : ys.length * k ≤ cur.size := by rw [h4, hsz]; exact Nat.mul_le_mul_right k h2
   refine ⟨h1, (Go.Sort.flatK enc k zs.toArray).toList, ⟨by rw [Array.length_toList, hfs, hsz, List.length_map, hl], .inr ⟨g, c, _, by rw [List.length_map, List.length_map, hl], hg, heap_sortedK zs.toArray hb, by rw [List.length_map, hl]; exact h2, h3, by simp [Go.Sort.putCells, h4], ?_⟩⟩, ?_, ?_⟩
   ·rw [List.length_map, hl, hsz, ← hfs]
    exact take_putCellsK cur _ (by rw [hfs]; exact hcz)
   ·rw [Array.length_toList, hfs, hsz, List.length_map, hl]
   ·intro j p hp
    rw [List.getElem?_map] at hp
    obtain ⟨x, hx, rfl⟩ := Option.map_eq_some_iff.1 hp
    rw [hsz, flat_take hlen zs j x hx]
    exact hM'
end

/-- A fraction of a Farey list. -/
def frOk (x : S32) : Bool := decide (0 ≤ x.f0 ∧ x.f0 ≤ 1000) && (decide (1 ≤ x.f1 ∧ x.f1 ≤ 1000) && (Nat.gcd x.f0.toNat x.f1.toNat == 1))
/-- The order. -/
def frLe (x y : S32) : Bool := decide (x.f0 * y.f1 ≤ y.f0 * x.f1)
abbrev FrT := { x : S32 // frOk x = true }
instance : Inhabited FrT := ⟨⟨⟨0, 1⟩, by decide⟩⟩
def frEnc (x : FrT) : List Value := [.int .i64 x.1.f0, .int .i64 x.1.f1]
def frCmp (x y : FrT) : Int := -(y.1.f0 * x.1.f1 - x.1.f0 * y.1.f1)
theorem frOk_is {x : S32} (h : frOk x = true) : (0 ≤ x.f0 ∧ x.f0 ≤ 1000) ∧ (1 ≤ x.f1 ∧ x.f1 ≤ 1000) ∧ Nat.gcd x.f0.toNat x.f1.toNat = 1 := by
 unfold frOk at h
 simp only [Bool.and_eq_true, decide_eq_true_eq, beq_iff_eq] at h
 exact h
theorem frLt (x y : FrT) : ltOf frCmp x y = decide (x.1.f0 * y.1.f1 < y.1.f0 * x.1.f1) := by
 unfold ltOf frCmp
 exact decide_eq_decide.2 (by omega)
theorem frSWO : Go.Sort.SWO (ltOf frCmp) where
 irrefl x := by rw [frLt]; simp
 trans x y z h1 h2 := by
  rw [frLt] at *
  have h1 := of_decide_eq_true h1
  have h2 := of_decide_eq_true h2
  have hx := (frOk_is x.2).2.1.1
  have hy := (frOk_is y.2).2.1.1
  have hz := (frOk_is z.2).2.1.1
  apply decide_eq_true
  have a1 := Int.mul_lt_mul_of_pos_right h1 (show 0 < z.1.f1 by omega)
  have a2 := Int.mul_lt_mul_of_pos_right h2 (show 0 < x.1.f1 by omega)
  refine Int.lt_of_mul_lt_mul_right (a := y.1.f1) ?_ (by omega)
  calc x.1.f0 * z.1.f1 * y.1.f1 = x.1.f0 * y.1.f1 * z.1.f1 := by grind
   _ < y.1.f0 * x.1.f1 * z.1.f1 := a1
   _ = y.1.f0 * z.1.f1 * x.1.f1 := by grind
   _ < z.1.f0 * y.1.f1 * x.1.f1 := a2
   _ = z.1.f0 * x.1.f1 * y.1.f1 := by grind
 ntrans x y z h1 h2 := by
  rw [frLt] at *
  have h1 := of_decide_eq_false h1
  have h2 := of_decide_eq_false h2
  have hx := (frOk_is x.2).2.1.1
  have hy := (frOk_is y.2).2.1.1
  have hz := (frOk_is z.2).2.1.1
  apply decide_eq_false
  intro h
  have a1 := Int.mul_le_mul_of_nonneg_right (show y.1.f0 * x.1.f1 ≤ x.1.f0 * y.1.f1 by omega) (show 0 ≤ z.1.f1 by omega)
  have a2 := Int.mul_le_mul_of_nonneg_right (show z.1.f0 * y.1.f1 ≤ y.1.f0 * z.1.f1 by omega) (show 0 ≤ x.1.f1 by omega)
  have a3 := Int.mul_lt_mul_of_pos_right h (show 0 < y.1.f1 by omega)
  have e1 : z.1.f0 * y.1.f1 * x.1.f1 = z.1.f0 * x.1.f1 * y.1.f1 := by grind
  have e2 : y.1.f0 * z.1.f1 * x.1.f1 = y.1.f0 * x.1.f1 * z.1.f1 := by grind
  have e3 : x.1.f0 * y.1.f1 * z.1.f1 = x.1.f0 * z.1.f1 * y.1.f1 := by grind
  omega
theorem frTot (x y : FrT) (h1 : ltOf frCmp x y = false) (h2 : ltOf frCmp y x = false) : x = y := by
 rw [frLt] at *
 have h1 := of_decide_eq_false h1
 have h2 := of_decide_eq_false h2
 have hx := frOk_is x.2
 have hy := frOk_is y.2
 have he : x.1.f0 * y.1.f1 = y.1.f0 * x.1.f1 := by omega
 obtain ⟨⟨⟨a, b⟩, p⟩, rfl⟩ : ∃ u : FrT, u = x := ⟨x, rfl⟩
 obtain ⟨⟨⟨c, d⟩, q⟩, rfl⟩ : ∃ u : FrT, u = y := ⟨y, rfl⟩
 simp only at *
 obtain ⟨A, rfl⟩ : ∃ A : Nat, a = A := ⟨a.toNat, by omega⟩
 obtain ⟨B, rfl⟩ : ∃ B : Nat, b = B := ⟨b.toNat, by omega⟩
 obtain ⟨C, rfl⟩ : ∃ C : Nat, c = C := ⟨c.toNat, by omega⟩
 obtain ⟨D, rfl⟩ : ∃ D : Nat, d = D := ⟨d.toNat, by omega⟩
 simp only [Int.toNat_natCast] at hx hy
 have he : A * D = C * B := by exact_mod_cast he
 have hbd : B ∣ D := Nat.Coprime.dvd_of_dvd_mul_left (show Nat.Coprime B A by rw [Nat.Coprime, Nat.gcd_comm]; exact hx.2.2) ⟨C, by rw [he, Nat.mul_comm]⟩
 have hdb : D ∣ B := Nat.Coprime.dvd_of_dvd_mul_left (show Nat.Coprime D C by rw [Nat.Coprime, Nat.gcd_comm]; exact hy.2.2) ⟨A, by rw [← he, Nat.mul_comm]⟩
 have hBD : B = D := Nat.dvd_antisymm hbd hdb
 subst hBD
 have hAC : A = C := Nat.eq_of_mul_eq_mul_right (by omega) he
 subst hAC
 rfl
set_option maxHeartbeats 8000000 in
set_option maxRecDepth 100000 in
theorem frCross_grow (a0_0 a0_1 a1_0 a1_1 : Int) (W : World) :
  Calls Try.prog 95 #[.agg #[.int .i64 a0_0, .int .i64 a0_1], .agg #[.int .i64 a1_0, .int .i64 a1_1]] W fun e w' => e = .returned (.int .i64 (wrap64 ((wrap64 (a1_0 * a0_1)) - (wrap64 (a0_0 * a1_1))))) ∧ ∃ q os', w' = Go.Sort.grow (W.drewN q) os' := by
 have hu32 := Try.underlying32
 go_enter Try.func95, Try.ntmps95
 go_wp2
 go_ret
 exact ⟨rfl, 0, _, by rw [Go.Sort.alloc_eq_grow, Go.Sort.alloc_eq_grow, Go.Sort.grow_grow]; rfl⟩
set_option maxHeartbeats 8000000 in
set_option maxRecDepth 100000 in
theorem frCmp_grow (a0_0 a0_1 a1_0 a1_1 : Int) (W : World) :
  Calls Try.prog 94 #[.agg #[.int .i64 a0_0, .int .i64 a0_1], .agg #[.int .i64 a1_0, .int .i64 a1_1]] W fun e w' => e = .returned (.int .i64 (wrap64 (-(wrap64 ((wrap64 (a1_0 * a0_1)) - (wrap64 (a0_0 * a1_1))))))) ∧ ∃ q os', w' = Go.Sort.grow (W.drewN q) os' := by
 have hc := fun W' => frCross_grow a0_0 a0_1 a1_0 a1_1 W'
 generalize wrap64 ((wrap64 (a1_0 * a0_1)) - (wrap64 (a0_0 * a1_1))) = r at hc ⊢
 go_enter Try.func94, Try.ntmps94
 go_wp2_with (go_at_call 95; refine (hc _).mono ?_; rintro e w5 ⟨rfl, q, os, rfl⟩)
 go_ret
 have key : ∀ o1 o2 : Obj, Go.Sort.grow (((W.alloc o1).alloc o2).drewN q) os = Go.Sort.grow (W.drewN q) (#[o1] ++ #[o2] ++ os) := fun o1 o2 => by
  rw [Go.Sort.alloc_eq_grow, Go.Sort.alloc_eq_grow, Go.Sort.grow_grow]
  exact Go.Sort.grow_grow (W.drewN q) _ _
 exact ⟨rfl, q, _, key _ _⟩
theorem wr64 (n : Int) (h : -9223372036854775808 ≤ n ∧ n ≤ 9223372036854775807) : wrap64 n = n := by unfold wrap64; omega
theorem frSmall {a b c d : Int} (ha : 0 ≤ a ∧ a ≤ 1000) (hb : 0 ≤ b ∧ b ≤ 1000) (hc : 0 ≤ c ∧ c ≤ 1000) (hd : 0 ≤ d ∧ d ≤ 1000) : wrap64 (-(wrap64 ((wrap64 (c * b)) - (wrap64 (a * d))))) = -(c * b - a * d) := by
 have h1 : 0 ≤ c * b := Int.mul_nonneg hc.1 hb.1
 have h2 : 0 ≤ a * d := Int.mul_nonneg ha.1 hd.1
 have h3 : c * b ≤ 1000 * 1000 := Int.mul_le_mul hc.2 hb.2 hb.1 (by omega)
 have h4 : a * d ≤ 1000 * 1000 := Int.mul_le_mul ha.2 hd.2 hd.1 (by omega)
 generalize c * b = p at *
 generalize a * d = q at *
 rw [wr64 _ (show -9223372036854775808 ≤ p ∧ p ≤ 9223372036854775807 by omega), wr64 _ (show -9223372036854775808 ≤ q ∧ q ≤ 9223372036854775807 by omega), wr64 _ (show -9223372036854775808 ≤ p - q ∧ p - q ≤ 9223372036854775807 by omega), wr64 _ (by omega)]
theorem frCmp_lays (blk off size : Nat) (w : World) : CmpLays Try.prog 94 #[] frEnc 2 frCmp blk off size w := by
 intro m os dk _ x y
 have hx := frOk_is x.2
 have hy := frOk_is y.2
 have h := frCmp_grow x.1.f0 x.1.f1 y.1.f0 y.1.f1 (sortWorldK frEnc 2 w blk off m dk os)
 rw [frSmall hx.1 ⟨by omega, hx.2.1.2⟩ hy.1 ⟨by omega, hy.2.1.2⟩] at h
 exact h
def frLays_ren : Go.Shelf.Ren := ⟨fun | 6 => 93 | 15 => 128 | 14 => 127 | 28 => 160 | 29 => 161 | 20 => 152 | 21 => 153 | 22 => 154 | 23 => 155 | 24 => 156 | 25 => 157 | 26 => 158 | 27 => 159 | 46 => 174 | 47 => 175 | 48 => 176 | 49 => 177 | 50 => 178 | 57 => 182 | n => n, fun | 22 => 22 | 24 => 32 | 25 => 86 | 3 => 3 | 39 => 107 | 0 => 0 | 53 => 128 | 55 => 130 | 4 => 4 | 46 => 122 | 45 => 121 | 50 => 28 | 5 => 5 | 9 => 9 | 66 => 141 | 70 => 145 | 76 => 149 | 77 => 150 | n => n, fun | n => n⟩
theorem frLays : Go.Proofs.SlLaysF0.n6 Try.prog frLays_ren := {
 mixed := by kernel_rfl
 f6 := ⟨Try.f93.name, by decide, Try.func93.trans (congrArg some (by kernel_rfl))⟩
 f14 := ⟨Try.f127.name, by decide, Try.func127.trans (congrArg some (by kernel_rfl))⟩
 f15 := Try.func128.trans (congrArg some (by kernel_rfl))
 f20 := ⟨Try.f152.name, by decide, Try.func152.trans (congrArg some (by kernel_rfl))⟩
 f21 := ⟨Try.f153.name, by decide, Try.func153.trans (congrArg some (by kernel_rfl))⟩
 f22 := ⟨Try.f154.name, by decide, Try.func154.trans (congrArg some (by kernel_rfl))⟩
 f23 := ⟨Try.f155.name, by decide, Try.func155.trans (congrArg some (by kernel_rfl))⟩
 f24 := ⟨Try.f156.name, by decide, Try.func156.trans (congrArg some (by kernel_rfl))⟩
 f25 := ⟨Try.f157.name, by decide, Try.func157.trans (congrArg some (by kernel_rfl))⟩
 f26 := ⟨Try.f158.name, by decide, Try.func158.trans (congrArg some (by kernel_rfl))⟩
 f27 := ⟨Try.f159.name, by decide, Try.func159.trans (congrArg some (by kernel_rfl))⟩
 f28 := Try.func160.trans (congrArg some (by kernel_rfl))
 f29 := Try.func161.trans (congrArg some (by kernel_rfl))
 f46 := ⟨Try.f174.name, by decide, Try.func174.trans (congrArg some (by kernel_rfl))⟩
 f47 := Try.func175.trans (congrArg some (by kernel_rfl))
 f48 := Try.func176.trans (congrArg some (by kernel_rfl))
 f49 := ⟨Try.f177.name, by decide, Try.func177.trans (congrArg some (by kernel_rfl))⟩
 f50 := ⟨Try.f178.name, by decide, Try.func178.trans (congrArg some (by kernel_rfl))⟩
 f57 := ⟨Try.f182.name, by decide, Try.func182.trans (congrArg some (by kernel_rfl))⟩
 t0 := Try.underlying0
 a0 := Try.isAgg0
 z0 := Try.sizeOf0
 v0 := Try.zeroValue0
 t3 := Try.underlying3
 a3 := Try.isAgg3
 z3 := Try.sizeOf3
 v3 := Try.zeroValue3
 t4 := Try.underlying4
 a4 := Try.isAgg4
 z4 := Try.sizeOf4
 v4 := Try.zeroValue4
 t5 := Try.underlying5
 a5 := Try.isAgg5
 z5 := Try.sizeOf5
 v5 := Try.zeroValue5
 t9 := Try.underlying9
 a9 := Try.isAgg9
 z9 := Try.sizeOf9
 v9 := Try.zeroValue9
 t22 := Try.underlying22
 a22 := Try.isAgg22
 z22 := Try.sizeOf22
 v22 := Try.zeroValue22
 t25 := Try.underlying86
 a25 := Try.isAgg86
 z25 := Try.sizeOf86
 v25 := Try.zeroValue86
 t39 := Try.underlying107
 a39 := Try.isAgg107
 z39 := Try.sizeOf107
 v39 := Try.zeroValue107
 t45 := Try.underlying121
 a45 := Try.isAgg121
 z45 := Try.sizeOf121
 v45 := Try.zeroValue121
 t46 := Try.underlying122
 a46 := Try.isAgg122
 z46 := Try.sizeOf122
 v46 := Try.zeroValue122
 t50 := Try.underlying28
 a50 := Try.isAgg28
 z50 := Try.sizeOf28
 v50 := Try.zeroValue28
 t53 := Try.underlying128
 a53 := Try.isAgg128
 z53 := Try.sizeOf128
 v53 := Try.zeroValue128
 t55 := Try.underlying130
 a55 := Try.isAgg130
 z55 := Try.sizeOf130
 v55 := Try.zeroValue130
 t66 := Try.underlying141
 a66 := Try.isAgg141
 z66 := Try.sizeOf141
 v66 := Try.zeroValue141
 t70 := Try.underlying145
 a70 := Try.isAgg145
 z70 := Try.sizeOf145
 v70 := Try.zeroValue145
 t76 := Try.underlying149
 a76 := Try.isAgg149
 z76 := Try.sizeOf149
 v76 := Try.zeroValue149
 t77 := Try.underlying150
 a77 := Try.isAgg150
 z77 := Try.sizeOf150
 v77 := Try.zeroValue150 }

def impl_Fraction.f (l0 : List S32) : Option (List S32) := if l0.all frOk = true ∧ l0.isEmpty = false ∧ l0.length ≤ 1048576 then some (l0.mergeSort frLe) else none
set_option maxHeartbeats 4000000 in
set_option maxRecDepth 100000 in
theorem impl_Fraction.calls (P0_ : Nat → Prop) (u9000_ : Value) (l0 : List S32) (r : List S32) (w0 w : World) (hB : Below w0.heap.size w0 w) (ho0 : Kd.R k32 32 w w0.heap.size P0_ u9000_ l0) (h : impl_Fraction.f l0 = some r) :
  Calls Try.prog 93 #[u9000_, .func (.func 94) #[] #[]] w fun e w' => e = .returned (.tuple #[]) ∧ Kd.R k32 32 w' w0.heap.size (fun k_ => (P0_ k_ ∨ w.heap.size ≤ k_)) u9000_ r ∧ Below w0.heap.size w0 w' ∧ Kept w w' (fun k_ => P0_ k_) := by
 have H : (if l0.all frOk = true ∧ l0.isEmpty = false ∧ l0.length ≤ 1048576 then some (l0.mergeSort frLe) else none) = some r := h
 clear h
 by_cases c : l0.all frOk = true ∧ l0.isEmpty = false ∧ l0.length ≤ 1048576
 ·rw [if_pos c] at H
  obtain rfl := Option.some.inj H
  obtain ⟨c1, c2, c3⟩ := c
  rw [List.all_eq_true] at c1
  obtain ⟨ys, rfl⟩ : ∃ ys : List FrT, ys.map Subtype.val = l0 := ⟨l0.attachWith (fun x => frOk x = true) c1, by simp⟩
  have h0 : ys ≠ [] := by rintro rfl; simp at c2
  have hs := List.map_mergeSort (r := fun x y : FrT => !(ltOf frCmp) y x) (s := frLe) (f := Subtype.val) (l := ys) (fun a _ b _ => by
   rw [frLt]
   unfold frLe
   rw [Bool.eq_iff_iff]
   simp [Int.not_lt])
  obtain ⟨g, cp, rfl, hg, hok, hlt, hmx, hH, hR⟩ := R_sortedK (k := 2) (enc := frEnc) (val := Subtype.val) (d := k32) (zs := ys.mergeSort fun x y => !(ltOf frCmp) y x) rfl (fun _ => rfl) (fun h => k32_openM h) (fun {w base ok x} => k32_mkM w base ok x.1) ho0 h0 (List.length_mergeSort ys)
  have hcon := AnyQ.slices_SortFunc_total frLays 2 Try.isAgg32 Try.sizeOf32 frEnc (fun _ => rfl) (fun x v hv => by simp [frEnc] at hv; rcases hv with rfl | rfl <;> rfl) frCmp frSWO 94 #[] g 0 cp ys.toArray w (enters_of Try.func94 (by kernel_rfl) rfl) (frCmp_lays g 0 _ w) hH hlt (by
   rw [List.length_map] at c3
   simp only [List.size_toArray]
   omega) frTot
  refine hcon.mono ?_
  rintro e w' ⟨rfl, n, os, rfl⟩
  have hgr := grownBy_sortedK (enc := frEnc) (k := 2) (w := w) (g := g) (n := n) (os := os) (ys.mergeSort fun x y => !(ltOf frCmp) y x).toArray
  refine ⟨rfl, ?_, ?_, ?_⟩
  ·rw [← hs]
   exact Kd.R_mono (hR n os) (fun _ hk => Or.inl hk)
  ·exact hB.grown hgr hB.size (fun k hk => by injection hk with hk; subst hk; exact hg)
  ·exact Kept.of_grown hgr (Kept.refl w _) (fun k hk => by injection hk with hk; subst hk; exact Or.inl hok)
 ·rw [if_neg c] at H
  cases H

/-! ### impl_farey: function 58 -/
mutual
def impl_farey.l0 : Nat → Int → List (S32) → Int → Option ((List (S32)))
 | 0, _, _, _ => none
 | k + 1, x0, x3, x4 => if x4 ≤ x0 then (impl_farey.l1 k x0 x3 x4 (wrap64 (x4 + 1)) 0) else ((impl_Fraction.f x3).bind fun t129 => (some t129))
def impl_farey.l1 : Nat → Int → List (S32) → Int → Int → Int → Option ((List (S32)))
 | 0, _, _, _, _, _ => none
 | k + 1, x0, x3, x4, x14, x15 => if x15 < x14 then ((impl_IsFraction.f k x15 x4).bind fun t131 => (if t131 = true then (if x3.length < 8796093022208 then (impl_farey.l1 k x0 (x3 ++ [(⟨x15, x4⟩ : S32)]) x4 x14 (wrap64 (x15 + 1))) else (none)) else (impl_farey.l1 k x0 x3 x4 x14 (wrap64 (x15 + 1))))) else (impl_farey.l0 k x0 x3 (wrap64 (x4 + 1)))
end
def impl_farey.f (k : Nat) (a0 : Int) : Option ((List (S32))) := impl_farey.l0 k a0 (([] : List (S32))) 1
theorem impl_farey.mono_l : ∀ k, (∀ y0 y1 y2, LeO (impl_farey.l0 k y0 y1 y2) (impl_farey.l0 (k + 1) y0 y1 y2)) ∧ (∀ y0 y1 y2 y3 y4, LeO (impl_farey.l1 k y0 y1 y2 y3 y4) (impl_farey.l1 (k + 1) y0 y1 y2 y3 y4))
 | 0 => ⟨fun _ _ _ r h => by simp [impl_farey.l0] at h, fun _ _ _ _ _ r h => by simp [impl_farey.l1] at h⟩
 | k + 1 => by
  obtain ⟨ih0, ih1⟩ := impl_farey.mono_l k
  refine ⟨?_, ?_⟩
  ·intro y0 y1 y2
   unfold impl_farey.l0
   repeat' first
   | (with_reducible exact ih0 _ _ _)
   | (with_reducible exact ih1 _ _ _ _ _)
   | (with_reducible exact impl_IsFraction.mono _ _ _)
   | (with_reducible exact LeO.refl _)
   | (with_reducible exact LeO.none _)
   | (with_reducible refine LeO.ite ?_ ?_)
   | (with_reducible refine LeO.bind ?_ (fun _ => ?_))
   | exact ih0 _ _ _
   | exact ih1 _ _ _ _ _
   | exact impl_IsFraction.mono _ _ _
   | exact LeO.none _
   | refine LeO.ite ?_ ?_
   | refine LeO.bind ?_ (fun _ => ?_)
  ·intro y0 y1 y2 y3 y4
   unfold impl_farey.l1
   repeat' first
   | (with_reducible exact ih0 _ _ _)
   | (with_reducible exact ih1 _ _ _ _ _)
   | (with_reducible exact impl_IsFraction.mono _ _ _)
   | (with_reducible exact LeO.refl _)
   | (with_reducible exact LeO.none _)
   | (with_reducible refine LeO.ite ?_ ?_)
   | (with_reducible refine LeO.bind ?_ (fun _ => ?_))
   | exact ih0 _ _ _
   | exact ih1 _ _ _ _ _
   | exact impl_IsFraction.mono _ _ _
   | exact LeO.none _
   | refine LeO.ite ?_ ?_
   | refine LeO.bind ?_ (fun _ => ?_)
theorem impl_farey.mono : ∀ a0 k, LeO (impl_farey.f k a0) (impl_farey.f (k + 1) a0) := by
 intro a0 k
 obtain ⟨ih0, ih1⟩ := impl_farey.mono_l k
 unfold impl_farey.f
 repeat' first
   | (with_reducible exact ih0 _ _ _)
   | (with_reducible exact ih1 _ _ _ _ _)
   | (with_reducible exact impl_IsFraction.mono _ _ _)
   | (with_reducible exact LeO.refl _)
   | (with_reducible exact LeO.none _)
   | (with_reducible refine LeO.ite ?_ ?_)
   | (with_reducible refine LeO.bind ?_ (fun _ => ?_))
   | exact ih0 _ _ _
   | exact ih1 _ _ _ _ _
   | exact impl_IsFraction.mono _ _ _
   | exact LeO.none _
   | refine LeO.ite ?_ ?_
   | refine LeO.bind ?_ (fun _ => ?_)
set_option maxHeartbeats 8000000 in
set_option maxRecDepth 100000 in
theorem impl_farey.calls (k : Nat) (a0 : Int) (r : List (S32)) (w : World) (h : impl_farey.f k a0 = some r) :
  Calls Try.prog 58 #[.int .i64 a0] w fun e w' => ∃ v0_ : Value, e = .returned (v0_) ∧ Kd.R k32 32 w' w.heap.size (fun _ => True) v0_ r ∧ Below w.heap.size w w' := by
 have hu32 := Try.underlying32
 have HB := Aside0.mk (Below.refl w.heap.size w)
 have H : (impl_farey.l0 k a0 (([] : List (S32))) 1) = some r := h
 clear h
 obtain ⟨y126, hy126⟩ : ∃ y_ : List (S32), y_ = (([] : List (S32))) := ⟨_, rfl⟩
 replace H : (impl_farey.l0 k a0 y126 1) = some r := by first | (rw [hy126]; with_reducible exact H) | (have H2_ := (Option.bind_some _ _).symm.trans H; rw [hy126]; with_reducible exact H2_) | (have H2_ := (Option.bind_some _ _).symm.trans H; with_reducible exact H2_) | with_reducible exact H | (rw [hy126]; exact H) | exact H
 have Ny126 := Aside0.mk hy126
 clear hy126
 have H' := Aside0.mk H
 clear H
 go_enter Try.func58, Try.ntmps58
 go_wp2_with (first | ((with_reducible refine gate_dst (N := 7) rfl ?_); refine Kd.R_lit k32 _ 32 ?hg (N := 7) ?hd (xs := ([] : List (S32))) (inner := []) (ok := fun _ => True) (okp := fun _ => True) ?hr ?hp (fun _ hk => hk) trivial (Below.refl _ _) (Nat.le_refl _) (by simp) ?_; (case hd => rfl); (case hg => rfl); (case hr => first | (go_simp; done) | (go_simp; rfl)); (case hp => exact (Reps.none _ _)); intro v127 w2 ho3 hb hg_ hnew_; clear hg_ hnew_; (first | rw [← Ny126.out] at ho3 | (simp only [Int.reduceToNat] at ho3; rw [← Ny126.out] at ho3)); have n0_ := Aside0.mk (Kd.R_lower ho3 (below_size blw_)); have n1_ := Aside0.mk (below_step blw_ hb); clear HB; have HO128 := n0_; have HB := n1_; clear n0_ n1_; clear hb ho3))
 go_loopg [3, 4] k (fun kq v3 v4 w' => ∃ (x3_1 : List (S32)) (x4_1 : Int), v4 = .int .i64 x4_1 ∧ Aside0 (impl_farey.l0 kq a0 x3_1 x4_1 = some r) ∧ Aside0 (kq ≤ k) ∧ Aside0 (Kd.R k32 32 w' w.heap.size (fun _ => True) v3 x3_1) ∧ Aside0 (Below w.heap.size w w'))
 case atStart => exact ⟨(y126), (1), (by first | rfl | (simp; done) | (simp [*]; done)), H', ⟨Nat.le_refl _⟩, ⟨ra_ HO128.out⟩, ⟨by repeat (first | (with_reducible first | exact HB.out | apply below_alloc | apply pw_below_drewN | apply below_drew1) | exact HB.out)⟩⟩
 case round =>
  clear H'
  try clear p2
  try clear HO_3
  obtain ⟨x3_1, x4_1, rfl, HA, HK1, HO_3, HB⟩ := hrel
  cases gk with
  | zero => exact absurd HA.out (by simp [impl_farey.l0])
  | succ k1 =>
   have H := HA.out
   clear HA
   simp only [impl_farey.l0] at H
   by_cases c4 : x4_1 ≤ a0
   ·rw [if_pos c4] at H
    have c4b0 : decide (x4_1 ≤ a0) = true := decide_eq_true c4
    clear c4
    have H' := Aside0.mk H
    clear H
    go_wp2
    go_loopg [3, 15] k1 (fun kq v3 v15 w' => ∃ (x3_2 : List (S32)) (x15_2 : Int), v15 = .int .i64 x15_2 ∧ Aside0 (impl_farey.l1 kq a0 x3_2 x4_1 (wrap64 (x4_1 + 1)) x15_2 = some r) ∧ Aside0 (kq ≤ k1) ∧ Aside0 (Kd.R k32 32 w' w.heap.size (fun _ => True) v3 x3_2) ∧ Aside0 (Below w.heap.size w w'))
    case atStart => exact ⟨(x3_1), (0), (by first | rfl | (simp; done) | (simp [*]; done)), H', ⟨Nat.le_refl _⟩, ⟨ra_ HO_3.out⟩, ⟨by repeat (first | (with_reducible first | exact HB.out | apply below_alloc | apply pw_below_drewN | apply below_drew1) | exact HB.out)⟩⟩
    case round =>
     clear H'
     try clear p2
     try clear c4
     try clear c4b0
     try clear p2
     try clear HO_3
     obtain ⟨x3_2, x15_2, rfl, HA, HK2, HO_3, HB⟩ := hrel
     cases gk with
     | zero => exact absurd HA.out (by simp [impl_farey.l1])
     | succ k2 =>
      have H := HA.out
      clear HA
      simp only [impl_farey.l1] at H
      by_cases c5 : x15_2 < (wrap64 (x4_1 + 1))
      ·rw [if_pos c5] at H
       have c5b0 : decide (x15_2 < (wrap64 (x4_1 + 1))) = true := decide_eq_true c5
       clear c5
       replace H := Option.bind_eq_some_iff.mp H
       obtain ⟨t131, A60, H⟩ := H
       replace H : (if t131 = true then (if x3_2.length < 8796093022208 then (impl_farey.l1 k2 a0 (x3_2 ++ [(⟨x15_2, x4_1⟩ : S32)]) x4_1 (wrap64 (x4_1 + 1)) (wrap64 (x15_2 + 1))) else (none)) else (impl_farey.l1 k2 a0 x3_2 x4_1 (wrap64 (x4_1 + 1)) (wrap64 (x15_2 + 1)))) = some r := H
       have A6 := Aside0.mk A60
       clear A60
       by_cases c7 : t131 = true
       ·subst c7
        have H1 : (if x3_2.length < 8796093022208 then (impl_farey.l1 k2 a0 (x3_2 ++ [(⟨x15_2, x4_1⟩ : S32)]) x4_1 (wrap64 (x4_1 + 1)) (wrap64 (x15_2 + 1))) else (none)) = some r := by rw [if_pos rfl] at H; exact H
        clear H
        have H := H1
        clear H1
        by_cases c8 : x3_2.length < 8796093022208
        ·rw [if_pos c8] at H
         have LMc8 := Aside0.mk c8
         clear c8
         obtain ⟨y132, hy132⟩ : ∃ y_ : List (S32), y_ = (x3_2 ++ [(⟨x15_2, x4_1⟩ : S32)]) := ⟨_, rfl⟩
         replace H : (impl_farey.l1 k2 a0 y132 x4_1 (wrap64 (x4_1 + 1)) (wrap64 (x15_2 + 1))) = some r := by first | (rw [hy132]; with_reducible exact H) | (have H2_ := (Option.bind_some _ _).symm.trans H; rw [hy132]; with_reducible exact H2_) | (have H2_ := (Option.bind_some _ _).symm.trans H; with_reducible exact H2_) | with_reducible exact H | (rw [hy132]; exact H) | exact H
         have Ny132 := Aside0.mk hy132
         clear hy132
         have H' := Aside0.mk H
         clear H
         go_wp2_with (first | ((with_reducible refine gate_dst (N := 6) rfl ?_); refine box_event ?hg (N := 6) ?hd (cs := #[.int .i64 0, .int .i64 0]) (t := 32) ?hr ?_; (case hd => rfl); (case hg => rfl); (case hr => first | (go_simp; done) | (go_simp; rfl)); intro gb130 hg w9 hbox hb; have n0_ := Aside0.mk (Kd.R_below (Kd.R_elderB (ra_ HO_3.out) gb130 (Nat.le_of_eq hg.symm)) hb); have n1_ := Aside0.mk (below_step blw_ hb); have n2_ := Aside0.mk (hbox); have n3_ := Aside0.mk ((by rw [hg]; exact (below_size blw_) : w.heap.size ≤ gb130)); have n4_ := Aside0.mk ((by rw [hg]; exact (below_size blw_) : w.heap.size ≤ gb130)); clear HO_3; clear HB; have HO_3 := n0_; have HB := n1_; have BK130 := n2_; have GW130 := n3_; have GE130 := n4_; clear n0_ n1_ n2_ n3_ n4_; clear hb hbox hg; have hcz10_0 : w9.cell? ⟨gb130, 0, none⟩ = some (.int .i64 0) := (blk_cell BK130.out 0).trans rfl; have hcz10_1 : w9.cell? ⟨gb130, 1, none⟩ = some (.int .i64 0) := (blk_cell BK130.out 1).trans rfl; have hfz10_0 := blk_frozen BK130.out 0; have hfz10_1 := blk_frozen BK130.out 1) | ((with_reducible refine gate_callee (f := 60) rfl ?_); refine goesL_ (some 22) rfl rfl Try.func60 (by kernel_rfl) rfl #[.agg #[.int .i64 x15_2, .int .i64 x4_1]] rfl amp_ ?_; (with_reducible refine (impl_IsFraction.calls k2 x15_2 x4_1 true _ A6.out).mono ?_); rintro e w11 ⟨rfl, hb⟩; refine ⟨_, rfl, ?_⟩; have n0_ := Aside0.mk (Kd.R_below (by (with_reducible repeat (first | apply Kd.R_alloc | apply Kd.R_drewN | apply Kd.R_drew)); exact (Kd.R_mono (Kd.R_far (p := ⟨gb130, 1, none⟩) (Kd.R_far (p := ⟨gb130, 0, none⟩) (Kd.R_mono HO_3.out (fun k_ hk => (⟨hk, hk.2⟩ : _ ∧ k_ ≠ gb130))) (fun _ hk => hk.2) (.int .i64 x15_2)) (fun _ hk => hk.2) (.int .i64 x4_1)) (fun _ h_ => h_.1))) hb); have n1_ := Aside0.mk (blk_below (g := gb130) (o := .cells #[.int .i64 x15_2, .int .i64 x4_1] 32 (0, 0)) (by (with_reducible repeat (first | refine blk_drewN ?_ _ | refine blk_drew ?_ | refine blk_alloc ?_ _)); refine blk_put (cs := #[.int .i64 x15_2, .int .i64 0]) ?_ 1 _ rfl; (with_reducible repeat (first | refine blk_drewN ?_ _ | refine blk_drew ?_ | refine blk_alloc ?_ _)); refine blk_put (cs := #[.int .i64 0, .int .i64 0]) ?_ 0 _ rfl; (with_reducible repeat (first | refine blk_drewN ?_ _ | refine blk_drew ?_ | refine blk_alloc ?_ _)); exact BK130.out) hb); have n2_ := Aside0.mk (below_step (by repeat (first | (with_reducible first | exact HB.out | apply below_alloc | apply pw_below_drewN | apply below_drew1 | refine below_set ?_ GE130.out) | exact HB.out)) hb); clear HO_3; clear BK130; clear HB; have HO_3 := n0_; have BK130 := n1_; have HB := n2_; clear n0_ n1_ n2_; (try clear hb); (try clear hb2); (try clear hk); (try clear hi); have hcz12_0 : w11.cell? ⟨gb130, 0, none⟩ = some (.int .i64 x15_2) := (blk_cell BK130.out 0).trans rfl; have hcz12_1 : w11.cell? ⟨gb130, 1, none⟩ = some (.int .i64 x4_1) := (blk_cell BK130.out 1).trans rfl; have hfz12_0 := blk_frozen BK130.out 0; have hfz12_1 := blk_frozen BK130.out 1) | ((with_reducible refine gate_builtin (b := .append) (xs := #[.tmp 23, .tmp 25]) rfl ?_); at_builtin; refine Kd.R_append k32 (w0 := w) w.heap.size rfl (.tmp 23) (.tmp 25) 22 32 (.agg #[(.int .i64 0), (.int .i64 0)]) 16 rfl Try.underlying22 info32 rfl (by decide) (by omega) u3 x3_2 (⟨x15_2, x4_1⟩ : S32) [.int .i64 x15_2, .int .i64 x4_1] (fun k_ => k_ ≠ gb130) (fun _ => False) rfl rfl ?aP (fun _ hk => hk.elim) ?aF ?aO ?aB ?aS ?aL ?_; (case aP => exact k32_mkM _ _ _ (⟨x15_2, x4_1⟩ : S32)); (case aB => exact (by repeat (first | (with_reducible first | exact HB.out | apply below_alloc | apply pw_below_drewN | apply below_drew1 | refine below_set ?_ GE130.out) | exact HB.out))); (case aF => exact (fun k_ hk => Kd.freshB (g := gb130) (o := .cells #[.int .i64 x15_2, .int .i64 x4_1] 32 (0, 0)) (bk_ BK130.out) k_ hk)); (case aO => exact (by (with_reducible repeat (first | apply Kd.R_alloc | apply Kd.R_drewN | apply Kd.R_drew)); exact Kd.R_mono HO_3.out (fun _ hk => hk.2))); (case aS => exact (below_size (by repeat (first | (with_reducible first | exact HB.out | apply below_alloc | apply pw_below_drewN | apply below_drew1 | refine below_set ?_ GE130.out) | exact HB.out)))); (case aL => have := LMc8.out; omega); intro v133 w13 ho hb hg hat; rw [← Ny132.out] at ho; have n0_ := Aside0.mk (blk_grown (g := gb130) (o := .cells #[.int .i64 x15_2, .int .i64 x4_1] 32 (0, 0)) (bk_ BK130.out) hg (Kd.R_away HO_3.out (fun _ hk => hk.2))); have n1_ := Aside0.mk (hb); have n2_ := Aside0.mk (ho); clear BK130; clear HB; clear HO_3; have BK130 := n0_; have HB := n1_; have HO134 := n2_; clear n0_ n1_ n2_; clear ho hb hg hat))
         go_roundg k2
         case measure => have := HK1.out; have := HK2.out; omega
         case rel => exact ⟨(y132), (wrap64 (x15_2 + 1)), (by first | rfl | (simp; done) | (simp [*]; done)), H', ⟨by have := HK1.out; have := HK2.out; omega⟩, ⟨by (with_reducible repeat (first | apply Kd.R_alloc | apply Kd.R_drewN | apply Kd.R_drew)); exact Kd.R_mono HO134.out (fun _ hk => trivial)⟩, ⟨by repeat (first | (with_reducible first | exact HB.out | apply below_alloc | apply pw_below_drewN | apply below_drew1 | refine below_set ?_ GE130.out) | exact HB.out)⟩⟩
        ·rw [if_neg c8] at H
         exact absurd H (by simp)
       ·replace c7 := Bool.eq_false_iff.mpr c7
        subst c7
        have H1 : (impl_farey.l1 k2 a0 x3_2 x4_1 (wrap64 (x4_1 + 1)) (wrap64 (x15_2 + 1))) = some r := by rw [if_neg (show ¬ (false = true) by decide)] at H; exact H
        clear H
        have H := H1
        clear H1
        have H' := Aside0.mk H
        clear H
        go_wp2_with (first | ((with_reducible refine gate_dst (N := 6) rfl ?_); refine box_event ?hg (N := 6) ?hd (cs := #[.int .i64 0, .int .i64 0]) (t := 32) ?hr ?_; (case hd => rfl); (case hg => rfl); (case hr => first | (go_simp; done) | (go_simp; rfl)); intro gb130 hg w14 hbox hb; have n0_ := Aside0.mk (Kd.R_below (Kd.R_elderB (ra_ HO_3.out) gb130 (Nat.le_of_eq hg.symm)) hb); have n1_ := Aside0.mk (below_step blw_ hb); have n2_ := Aside0.mk (hbox); have n3_ := Aside0.mk ((by rw [hg]; exact (below_size blw_) : w.heap.size ≤ gb130)); have n4_ := Aside0.mk ((by rw [hg]; exact (below_size blw_) : w.heap.size ≤ gb130)); clear HO_3; clear HB; have HO_3 := n0_; have HB := n1_; have BK130 := n2_; have GW130 := n3_; have GE130 := n4_; clear n0_ n1_ n2_ n3_ n4_; clear hb hbox hg; have hcz15_0 : w14.cell? ⟨gb130, 0, none⟩ = some (.int .i64 0) := (blk_cell BK130.out 0).trans rfl; have hcz15_1 : w14.cell? ⟨gb130, 1, none⟩ = some (.int .i64 0) := (blk_cell BK130.out 1).trans rfl; have hfz15_0 := blk_frozen BK130.out 0; have hfz15_1 := blk_frozen BK130.out 1) | ((with_reducible refine gate_callee (f := 60) rfl ?_); refine goesL_ (some 22) rfl rfl Try.func60 (by kernel_rfl) rfl #[.agg #[.int .i64 x15_2, .int .i64 x4_1]] rfl amp_ ?_; (with_reducible refine (impl_IsFraction.calls k2 x15_2 x4_1 false _ A6.out).mono ?_); rintro e w16 ⟨rfl, hb⟩; refine ⟨_, rfl, ?_⟩; have n0_ := Aside0.mk (Kd.R_below (by (with_reducible repeat (first | apply Kd.R_alloc | apply Kd.R_drewN | apply Kd.R_drew)); exact (Kd.R_mono (Kd.R_far (p := ⟨gb130, 1, none⟩) (Kd.R_far (p := ⟨gb130, 0, none⟩) (Kd.R_mono HO_3.out (fun k_ hk => (⟨hk, hk.2⟩ : _ ∧ k_ ≠ gb130))) (fun _ hk => hk.2) (.int .i64 x15_2)) (fun _ hk => hk.2) (.int .i64 x4_1)) (fun _ h_ => h_.1))) hb); have n1_ := Aside0.mk (blk_below (g := gb130) (o := .cells #[.int .i64 x15_2, .int .i64 x4_1] 32 (0, 0)) (by (with_reducible repeat (first | refine blk_drewN ?_ _ | refine blk_drew ?_ | refine blk_alloc ?_ _)); refine blk_put (cs := #[.int .i64 x15_2, .int .i64 0]) ?_ 1 _ rfl; (with_reducible repeat (first | refine blk_drewN ?_ _ | refine blk_drew ?_ | refine blk_alloc ?_ _)); refine blk_put (cs := #[.int .i64 0, .int .i64 0]) ?_ 0 _ rfl; (with_reducible repeat (first | refine blk_drewN ?_ _ | refine blk_drew ?_ | refine blk_alloc ?_ _)); exact BK130.out) hb); have n2_ := Aside0.mk (below_step (by repeat (first | (with_reducible first | exact HB.out | apply below_alloc | apply pw_below_drewN | apply below_drew1 | refine below_set ?_ GE130.out) | exact HB.out)) hb); clear HO_3; clear BK130; clear HB; have HO_3 := n0_; have BK130 := n1_; have HB := n2_; clear n0_ n1_ n2_; (try clear hb); (try clear hb2); (try clear hk); (try clear hi)))
        go_roundg k2
        case measure => have := HK1.out; have := HK2.out; omega
        case rel => exact ⟨(x3_2), (wrap64 (x15_2 + 1)), (by first | rfl | (simp; done) | (simp [*]; done)), H', ⟨by have := HK1.out; have := HK2.out; omega⟩, ⟨by (with_reducible repeat (first | apply Kd.R_alloc | apply Kd.R_drewN | apply Kd.R_drew)); exact Kd.R_mono HO_3.out (fun _ hk => trivial)⟩, ⟨by repeat (first | (with_reducible first | exact HB.out | apply below_alloc | apply pw_below_drewN | apply below_drew1 | refine below_set ?_ GE130.out) | exact HB.out)⟩⟩
      ·rw [if_neg c5] at H
       have c5b0 : decide (x15_2 < (wrap64 (x4_1 + 1))) = false := decide_eq_false c5
       clear c5
       have H' := Aside0.mk H
       clear H
       go_wp2
       go_roundg k2
       case measure => have := HK1.out; have := HK2.out; omega
       case rel => exact ⟨(x3_2), (wrap64 (x4_1 + 1)), (by first | rfl | (simp; done) | (simp [*]; done)), H', ⟨by have := HK1.out; have := HK2.out; omega⟩, ⟨ra_ HO_3.out⟩, ⟨by repeat (first | (with_reducible first | exact HB.out | apply below_alloc | apply pw_below_drewN | apply below_drew1) | exact HB.out)⟩⟩
   ·rw [if_neg c4] at H
    have c4b0 : decide (x4_1 ≤ a0) = false := decide_eq_false c4
    clear c4
    replace H := Option.bind_eq_some_iff.mp H
    obtain ⟨t129, A170, H⟩ := H
    replace H : (some t129) = some r := H
    have A17 := Aside0.mk A170
    clear A170
    obtain rfl := Option.some.inj H
    obtain ⟨Ao18, co18, eo18⟩ := Kd.R_slice HO_3.out
    subst eo18
    go_wp2_with (first | ((with_reducible refine gate_callee (f := 93) rfl ?_); refine goesL_ (some 29) rfl rfl Try.func93 (by kernel_rfl) rfl #[.slice Ao18 x3_1.length co18, .func (.func 94) #[] #[]] rfl amp_ ?_; (with_reducible refine (impl_Fraction.calls (fun k_ => some k_ = (.slice Ao18 x3_1.length co18 : Value).ownBlock) (.slice Ao18 x3_1.length co18) x3_1  t129 w _ ?side1 ?side2 A17.out).mono ?_); (case side1 => repeat (first | (with_reducible first | exact HB.out | apply below_alloc | apply pw_below_drewN | apply below_drew1) | exact HB.out)); (case side2 => exact Kd.R_tight rfl HO_3.out); rintro e w19 ⟨rfl, hy0, hb, hkp⟩; refine ⟨_, rfl, ?_⟩; have n0_ := Aside0.mk (Kd.R_reok rfl hy0 (fun k_ e_ => HO_3.out.1 k_ e_)); have n1_ := Aside0.mk (hb); clear HO_3; clear HB; have HO_3 := n0_; have HB := n1_; clear n0_ n1_; (try clear hb); (try clear hkp); (try clear hy0)))
    go_ret
    exact ⟨_, by first | rfl | (simp [errW_none, errW_some] <;> rfl) | (simp [*, errW_none, errW_some] <;> rfl), by (with_reducible repeat (first | apply Kd.R_alloc | apply Kd.R_drewN | apply Kd.R_drew)); exact HO_3.out, by repeat (first | (with_reducible first | exact HB.out | apply below_alloc | apply pw_below_drewN | apply below_drew1) | exact HB.out)⟩

/-! ### impl_FareyList: function 16 -/
def impl_FareyList.f (k : Nat) (a0 : Int) : Option ((List (S32)) × Bool) := (impl_isDen.f a0).bind fun t135 => (if t135 = true then ((impl_farey.f k a0).bind fun t136 => (some (t136, true))) else (some (([] : List (S32)), false)))
theorem impl_FareyList.mono : ∀ a0 k, LeO (impl_FareyList.f k a0) (impl_FareyList.f (k + 1) a0) := by
 intro a0 k
 unfold impl_FareyList.f
 repeat' first
   | (with_reducible exact impl_farey.mono _ _)
   | (with_reducible exact LeO.refl _)
   | (with_reducible exact LeO.none _)
   | (with_reducible refine LeO.ite ?_ ?_)
   | (with_reducible refine LeO.bind ?_ (fun _ => ?_))
   | exact impl_farey.mono _ _
   | exact LeO.none _
   | refine LeO.ite ?_ ?_
   | refine LeO.bind ?_ (fun _ => ?_)
set_option maxHeartbeats 8000000 in
set_option maxRecDepth 100000 in
theorem impl_FareyList.calls (k : Nat) (a0 : Int) (r1 : List (S32)) (r2 : Bool) (w : World) (h : impl_FareyList.f k a0 = some (r1, r2)) :
  Calls Try.prog 16 #[.int .i64 a0] w fun e w' => ∃ v0_ : Value, e = .returned (.tuple #[v0_, .bool r2]) ∧ Kd.R k32 32 w' w.heap.size (fun _ => True) v0_ r1 ∧ Below w.heap.size w w' := by
 have HB := Aside0.mk (Below.refl w.heap.size w)
 have H : ((impl_isDen.f a0).bind fun t135 => (if t135 = true then ((impl_farey.f k a0).bind fun t136 => (some (t136, true))) else (some (([] : List (S32)), false)))) = some (r1, r2) := h
 clear h
 replace H := Option.bind_eq_some_iff.mp H
 obtain ⟨t135, A20, H⟩ := H
 replace H : (if t135 = true then ((impl_farey.f k a0).bind fun t136 => (some (t136, true))) else (some (([] : List (S32)), false))) = some (r1, r2) := H
 have A2 := Aside0.mk A20
 clear A20
 by_cases c3 : t135 = true
 ·subst c3
  have H1 : ((impl_farey.f k a0).bind fun t136 => (some (t136, true))) = some (r1, r2) := by rw [if_pos rfl] at H; exact H
  clear H
  have H := H1
  clear H1
  replace H := Option.bind_eq_some_iff.mp H
  obtain ⟨t136, A40, H⟩ := H
  replace H : (some (t136, true)) = some (r1, r2) := H
  have A4 := Aside0.mk A40
  clear A40
  simp only [Option.some.injEq, Prod.mk.injEq] at H
  obtain ⟨rfl, rfl⟩ := H
  go_enter Try.func16, Try.ntmps16
  go_wp2_with (first | ((with_reducible refine gate_callee (f := 57) rfl ?_); refine goesL_ (some 5) rfl rfl Try.func57 (by kernel_rfl) rfl #[.int .i64 a0] rfl amp_ ?_; (with_reducible refine (impl_isDen.calls a0 true _ A2.out).mono ?_); rintro e w' ⟨rfl, ⟨nd, rfl⟩⟩; refine ⟨_, rfl, ?_⟩) | ((with_reducible refine gate_callee (f := 58) rfl ?_); refine goesL_ (some 8) rfl rfl Try.func58 (by kernel_rfl) rfl #[.int .i64 a0] rfl amp_ ?_; (with_reducible refine (impl_farey.calls k a0 t136 _ A4.out).mono ?_); rintro e w5 ⟨v137, rfl, ho0, hb⟩; refine ⟨_, rfl, ?_⟩; have n0_ := Aside0.mk (Kd.R_lower ho0 (below_size blw_)); have n1_ := Aside0.mk (below_step blw_ hb); clear HB; have HO138 := n0_; have HB := n1_; clear n0_ n1_; (try clear hb); (try clear hb2); (try clear hk); (try clear hi); (try clear ho0)))
  go_ret2
  exact ⟨_, by first | rfl | (simp [errW_none, errW_some] <;> rfl) | (simp [*, errW_none, errW_some] <;> rfl), by (with_reducible repeat (first | apply Kd.R_alloc | apply Kd.R_drewN | apply Kd.R_drew)); exact HO138.out, by repeat (first | (with_reducible first | exact HB.out | apply below_alloc | apply pw_below_drewN | apply below_drew1) | exact HB.out)⟩
 ·replace c3 := Bool.eq_false_iff.mpr c3
  subst c3
  have H1 : (some (([] : List (S32)), false)) = some (r1, r2) := by rw [if_neg (show ¬ (false = true) by decide)] at H; exact H
  clear H
  have H := H1
  clear H1
  simp only [Option.some.injEq, Prod.mk.injEq] at H
  obtain ⟨rfl, rfl⟩ := H
  go_enter Try.func16, Try.ntmps16
  go_wp2_with (first | ((with_reducible refine gate_callee (f := 57) rfl ?_); refine goesL_ (some 5) rfl rfl Try.func57 (by kernel_rfl) rfl #[.int .i64 a0] rfl amp_ ?_; (with_reducible refine (impl_isDen.calls a0 false _ A2.out).mono ?_); rintro e w' ⟨rfl, ⟨nd, rfl⟩⟩; refine ⟨_, rfl, ?_⟩))
  go_ret2
  exact ⟨_, by first | rfl | (simp [errW_none, errW_some] <;> rfl) | (simp [*, errW_none, errW_some] <;> rfl), by first | exact Kd.R_nil _ _ _ _ _ | exact Kd.N_nil _ _ _ _ _ | exact Kd.V_nil _ _ _ _ _ | exact Kd.Q_nil _ _ _ _ _ | exact Kd.S_nil _ _ _ _ _, by repeat (first | (with_reducible first | exact HB.out | apply below_alloc | apply pw_below_drewN | apply below_drew1) | exact HB.out)⟩

/-! ### laws_eqFraction: function 25 -/
def laws_eqFraction.f (a0_0 : Int) (a0_1 : Int) (a1_0 : Int) (a1_1 : Int) : Option (Bool) := if a0_0 = a1_0 then (if a0_1 = a1_1 then (some true) else (some false)) else (some false)
set_option maxHeartbeats 8000000 in
set_option maxRecDepth 100000 in
theorem laws_eqFraction.calls (a0_0 : Int) (a0_1 : Int) (a1_0 : Int) (a1_1 : Int) (r : Bool) (w : World) (h : laws_eqFraction.f a0_0 a0_1 a1_0 a1_1 = some r) :
  Calls Try.prog 25 #[.agg #[.int .i64 a0_0, .int .i64 a0_1], .agg #[.int .i64 a1_0, .int .i64 a1_1]] w fun e w' => e = .returned (.bool r) ∧ Below w.heap.size w w' := by
 have hu32 := Try.underlying32
 have HB := Aside0.mk (Below.refl w.heap.size w)
 have H : (if a0_0 = a1_0 then (if a0_1 = a1_1 then (some true) else (some false)) else (some false)) = some r := h
 clear h
 by_cases c3 : a0_0 = a1_0
 ·rw [if_pos c3] at H
  have c3b0 : (a0_0 == a1_0) = true := beq_iff_eq.mpr c3
  have c3b1 : (a0_0 != a1_0) = false := bne_eq_false_iff_eq.mpr c3
  clear c3
  by_cases c4 : a0_1 = a1_1
  ·rw [if_pos c4] at H
   have c4b0 : (a0_1 == a1_1) = true := beq_iff_eq.mpr c4
   have c4b1 : (a0_1 != a1_1) = false := bne_eq_false_iff_eq.mpr c4
   clear c4
   obtain rfl := Option.some.inj H
   go_enter Try.func25, Try.ntmps25
   go_wp2_with (first | ((with_reducible refine gate_dst (N := 2) rfl ?_); refine box_event ?hg (N := 2) ?hd (cs := #[.int .i64 a0_0, .int .i64 a0_1]) (t := 32) ?hr ?_; (case hd => rfl); (case hg => rfl); (case hr => first | (go_simp; done) | (go_simp; rfl)); intro gb139 hg w5 hbox hb; have n0_ := Aside0.mk (below_step blw_ hb); have n1_ := Aside0.mk (hbox); have n2_ := Aside0.mk ((by rw [hg]; exact (below_size blw_) : w.heap.size ≤ gb139)); have n3_ := Aside0.mk ((by rw [hg]; exact (below_size blw_) : w.heap.size ≤ gb139)); clear HB; have HB := n0_; have BK139 := n1_; have GW139 := n2_; have GE139 := n3_; clear n0_ n1_ n2_ n3_; clear hb hbox hg) | ((with_reducible refine gate_dst (N := 3) rfl ?_); refine box_event ?hg (N := 3) ?hd (cs := #[.int .i64 a1_0, .int .i64 a1_1]) (t := 32) ?hr ?_; (case hd => rfl); (case hg => rfl); (case hr => first | (go_simp; done) | (go_simp; rfl)); intro gb140 hg w6 hbox hb; have n0_ := Aside0.mk (blk_below (g := gb139) (o := .cells #[.int .i64 a0_0, .int .i64 a0_1] 32 (0, 0)) (bk_ BK139.out) hb); have n1_ := Aside0.mk (below_step (by repeat (first | (with_reducible first | exact HB.out | apply below_alloc | apply pw_below_drewN | apply below_drew1 | refine below_set ?_ GE139.out) | exact HB.out)) hb); have n2_ := Aside0.mk (hbox); have n3_ := Aside0.mk ((by rw [hg]; exact (below_size (by repeat (first | (with_reducible first | exact HB.out | apply below_alloc | apply pw_below_drewN | apply below_drew1 | refine below_set ?_ GE139.out) | exact HB.out))) : w.heap.size ≤ gb140)); have n4_ := Aside0.mk ((by rw [hg]; exact (below_size (by repeat (first | (with_reducible first | exact HB.out | apply below_alloc | apply pw_below_drewN | apply below_drew1 | refine below_set ?_ GE139.out) | exact HB.out))) : w.heap.size ≤ gb140)); have n5_ := Aside0.mk ((by rw [hg]; exact Nat.ne_of_lt (blk_lt (g := gb139) (o := .cells #[.int .i64 a0_0, .int .i64 a0_1] 32 (0, 0)) (bk_ BK139.out)) : gb139 ≠ gb140)); have n6_ := Aside0.mk ((by rw [hg]; exact Nat.ne_of_gt (blk_lt (g := gb139) (o := .cells #[.int .i64 a0_0, .int .i64 a0_1] 32 (0, 0)) (bk_ BK139.out)) : gb140 ≠ gb139)); clear BK139; clear HB; have BK139 := n0_; have HB := n1_; have BK140 := n2_; have GW140 := n3_; have GE140 := n4_; have NB139_140 := n5_; have NB140_139 := n6_; clear n0_ n1_ n2_ n3_ n4_ n5_ n6_; clear hb hbox hg; have hnb7 := NB139_140.out; have hnc7 := NB140_139.out; have hcz8_0 : w6.cell? ⟨gb139, 0, none⟩ = some (.int .i64 a0_0) := (blk_cell BK139.out 0).trans rfl; have hcz8_1 : w6.cell? ⟨gb139, 1, none⟩ = some (.int .i64 a0_1) := (blk_cell BK139.out 1).trans rfl; have hfz8_0 := blk_frozen BK139.out 0; have hfz8_1 := blk_frozen BK139.out 1; have hcz9_0 : w6.cell? ⟨gb140, 0, none⟩ = some (.int .i64 a1_0) := (blk_cell BK140.out 0).trans rfl; have hcz9_1 : w6.cell? ⟨gb140, 1, none⟩ = some (.int .i64 a1_1) := (blk_cell BK140.out 1).trans rfl; have hfz9_0 := blk_frozen BK140.out 0; have hfz9_1 := blk_frozen BK140.out 1))
   go_ret
   exact ⟨by first | rfl | (simp [errW_none, errW_some] <;> rfl) | (simp [*, errW_none, errW_some] <;> rfl), by repeat (first | (with_reducible first | exact HB.out | apply below_alloc | apply pw_below_drewN | apply below_drew1 | refine below_set ?_ GE139.out | refine below_set ?_ GE140.out) | exact HB.out)⟩
  ·rw [if_neg c4] at H
   have c4b0 : (a0_1 == a1_1) = false := beq_eq_false_iff_ne.mpr c4
   have c4b1 : (a0_1 != a1_1) = true := bne_iff_ne.mpr c4
   obtain rfl := Option.some.inj H
   go_enter Try.func25, Try.ntmps25
   go_wp2_with (first | ((with_reducible refine gate_dst (N := 2) rfl ?_); refine box_event ?hg (N := 2) ?hd (cs := #[.int .i64 a0_0, .int .i64 a0_1]) (t := 32) ?hr ?_; (case hd => rfl); (case hg => rfl); (case hr => first | (go_simp; done) | (go_simp; rfl)); intro gb139 hg w10 hbox hb; have n0_ := Aside0.mk (below_step blw_ hb); have n1_ := Aside0.mk (hbox); have n2_ := Aside0.mk ((by rw [hg]; exact (below_size blw_) : w.heap.size ≤ gb139)); have n3_ := Aside0.mk ((by rw [hg]; exact (below_size blw_) : w.heap.size ≤ gb139)); clear HB; have HB := n0_; have BK139 := n1_; have GW139 := n2_; have GE139 := n3_; clear n0_ n1_ n2_ n3_; clear hb hbox hg) | ((with_reducible refine gate_dst (N := 3) rfl ?_); refine box_event ?hg (N := 3) ?hd (cs := #[.int .i64 a1_0, .int .i64 a1_1]) (t := 32) ?hr ?_; (case hd => rfl); (case hg => rfl); (case hr => first | (go_simp; done) | (go_simp; rfl)); intro gb140 hg w11 hbox hb; have n0_ := Aside0.mk (blk_below (g := gb139) (o := .cells #[.int .i64 a0_0, .int .i64 a0_1] 32 (0, 0)) (bk_ BK139.out) hb); have n1_ := Aside0.mk (below_step (by repeat (first | (with_reducible first | exact HB.out | apply below_alloc | apply pw_below_drewN | apply below_drew1 | refine below_set ?_ GE139.out) | exact HB.out)) hb); have n2_ := Aside0.mk (hbox); have n3_ := Aside0.mk ((by rw [hg]; exact (below_size (by repeat (first | (with_reducible first | exact HB.out | apply below_alloc | apply pw_below_drewN | apply below_drew1 | refine below_set ?_ GE139.out) | exact HB.out))) : w.heap.size ≤ gb140)); have n4_ := Aside0.mk ((by rw [hg]; exact (below_size (by repeat (first | (with_reducible first | exact HB.out | apply below_alloc | apply pw_below_drewN | apply below_drew1 | refine below_set ?_ GE139.out) | exact HB.out))) : w.heap.size ≤ gb140)); have n5_ := Aside0.mk ((by rw [hg]; exact Nat.ne_of_lt (blk_lt (g := gb139) (o := .cells #[.int .i64 a0_0, .int .i64 a0_1] 32 (0, 0)) (bk_ BK139.out)) : gb139 ≠ gb140)); have n6_ := Aside0.mk ((by rw [hg]; exact Nat.ne_of_gt (blk_lt (g := gb139) (o := .cells #[.int .i64 a0_0, .int .i64 a0_1] 32 (0, 0)) (bk_ BK139.out)) : gb140 ≠ gb139)); clear BK139; clear HB; have BK139 := n0_; have HB := n1_; have BK140 := n2_; have GW140 := n3_; have GE140 := n4_; have NB139_140 := n5_; have NB140_139 := n6_; clear n0_ n1_ n2_ n3_ n4_ n5_ n6_; clear hb hbox hg; have hnb12 := NB139_140.out; have hnc12 := NB140_139.out; have hcz13_0 : w11.cell? ⟨gb139, 0, none⟩ = some (.int .i64 a0_0) := (blk_cell BK139.out 0).trans rfl; have hcz13_1 : w11.cell? ⟨gb139, 1, none⟩ = some (.int .i64 a0_1) := (blk_cell BK139.out 1).trans rfl; have hfz13_0 := blk_frozen BK139.out 0; have hfz13_1 := blk_frozen BK139.out 1; have hcz14_0 : w11.cell? ⟨gb140, 0, none⟩ = some (.int .i64 a1_0) := (blk_cell BK140.out 0).trans rfl; have hcz14_1 : w11.cell? ⟨gb140, 1, none⟩ = some (.int .i64 a1_1) := (blk_cell BK140.out 1).trans rfl; have hfz14_0 := blk_frozen BK140.out 0; have hfz14_1 := blk_frozen BK140.out 1))
   go_ret
   exact ⟨by first | rfl | (simp [errW_none, errW_some] <;> rfl) | (simp [*, errW_none, errW_some] <;> rfl), by repeat (first | (with_reducible first | exact HB.out | apply below_alloc | apply pw_below_drewN | apply below_drew1 | refine below_set ?_ GE139.out | refine below_set ?_ GE140.out) | exact HB.out)⟩
 ·rw [if_neg c3] at H
  have c3b0 : (a0_0 == a1_0) = false := beq_eq_false_iff_ne.mpr c3
  have c3b1 : (a0_0 != a1_0) = true := bne_iff_ne.mpr c3
  obtain rfl := Option.some.inj H
  go_enter Try.func25, Try.ntmps25
  go_wp2_with (first | ((with_reducible refine gate_dst (N := 2) rfl ?_); refine box_event ?hg (N := 2) ?hd (cs := #[.int .i64 a0_0, .int .i64 a0_1]) (t := 32) ?hr ?_; (case hd => rfl); (case hg => rfl); (case hr => first | (go_simp; done) | (go_simp; rfl)); intro gb139 hg w15 hbox hb; have n0_ := Aside0.mk (below_step blw_ hb); have n1_ := Aside0.mk (hbox); have n2_ := Aside0.mk ((by rw [hg]; exact (below_size blw_) : w.heap.size ≤ gb139)); have n3_ := Aside0.mk ((by rw [hg]; exact (below_size blw_) : w.heap.size ≤ gb139)); clear HB; have HB := n0_; have BK139 := n1_; have GW139 := n2_; have GE139 := n3_; clear n0_ n1_ n2_ n3_; clear hb hbox hg) | ((with_reducible refine gate_dst (N := 3) rfl ?_); refine box_event ?hg (N := 3) ?hd (cs := #[.int .i64 a1_0, .int .i64 a1_1]) (t := 32) ?hr ?_; (case hd => rfl); (case hg => rfl); (case hr => first | (go_simp; done) | (go_simp; rfl)); intro gb140 hg w16 hbox hb; have n0_ := Aside0.mk (blk_below (g := gb139) (o := .cells #[.int .i64 a0_0, .int .i64 a0_1] 32 (0, 0)) (bk_ BK139.out) hb); have n1_ := Aside0.mk (below_step (by repeat (first | (with_reducible first | exact HB.out | apply below_alloc | apply pw_below_drewN | apply below_drew1 | refine below_set ?_ GE139.out) | exact HB.out)) hb); have n2_ := Aside0.mk (hbox); have n3_ := Aside0.mk ((by rw [hg]; exact (below_size (by repeat (first | (with_reducible first | exact HB.out | apply below_alloc | apply pw_below_drewN | apply below_drew1 | refine below_set ?_ GE139.out) | exact HB.out))) : w.heap.size ≤ gb140)); have n4_ := Aside0.mk ((by rw [hg]; exact (below_size (by repeat (first | (with_reducible first | exact HB.out | apply below_alloc | apply pw_below_drewN | apply below_drew1 | refine below_set ?_ GE139.out) | exact HB.out))) : w.heap.size ≤ gb140)); have n5_ := Aside0.mk ((by rw [hg]; exact Nat.ne_of_lt (blk_lt (g := gb139) (o := .cells #[.int .i64 a0_0, .int .i64 a0_1] 32 (0, 0)) (bk_ BK139.out)) : gb139 ≠ gb140)); have n6_ := Aside0.mk ((by rw [hg]; exact Nat.ne_of_gt (blk_lt (g := gb139) (o := .cells #[.int .i64 a0_0, .int .i64 a0_1] 32 (0, 0)) (bk_ BK139.out)) : gb140 ≠ gb139)); clear BK139; clear HB; have BK139 := n0_; have HB := n1_; have BK140 := n2_; have GW140 := n3_; have GE140 := n4_; have NB139_140 := n5_; have NB140_139 := n6_; clear n0_ n1_ n2_ n3_ n4_ n5_ n6_; clear hb hbox hg; have hnb17 := NB139_140.out; have hnc17 := NB140_139.out; have hcz18_0 : w16.cell? ⟨gb139, 0, none⟩ = some (.int .i64 a0_0) := (blk_cell BK139.out 0).trans rfl; have hcz18_1 : w16.cell? ⟨gb139, 1, none⟩ = some (.int .i64 a0_1) := (blk_cell BK139.out 1).trans rfl; have hfz18_0 := blk_frozen BK139.out 0; have hfz18_1 := blk_frozen BK139.out 1; have hcz19_0 : w16.cell? ⟨gb140, 0, none⟩ = some (.int .i64 a1_0) := (blk_cell BK140.out 0).trans rfl; have hcz19_1 : w16.cell? ⟨gb140, 1, none⟩ = some (.int .i64 a1_1) := (blk_cell BK140.out 1).trans rfl; have hfz19_0 := blk_frozen BK140.out 0; have hfz19_1 := blk_frozen BK140.out 1))
  go_ret
  exact ⟨by first | rfl | (simp [errW_none, errW_some] <;> rfl) | (simp [*, errW_none, errW_some] <;> rfl), by repeat (first | (with_reducible first | exact HB.out | apply below_alloc | apply pw_below_drewN | apply below_drew1 | refine below_set ?_ GE139.out | refine below_set ?_ GE140.out) | exact HB.out)⟩

end Go.Proofs.Ytnjejmfnacpdoaa.PFnExactFareyList
