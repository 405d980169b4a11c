-- WRITTEN BY A PROGRAM OF THIS WORK (wip/tools/ppatch.py) for this claim.
import Derived.Shelf.Strings.OnBuilder
import Derived.Shelf.Strconv.Itoa3
import Derived.Shelf.LaysM
import Derived.Ground.NamesProg
import Derived.Maps.OwnSet
import Derived.Test.YtgblginphicacaaDoorPFnExactFirstFlipsx0
import Derived.Test.YtgblginphicacaaDoorPFnExactFirstFlipsx9
import Derived.Test.YtgblginphicacaaDoorPFnExactFirstFlipsx14
namespace Go.Proofs.YtgblginphicacaaDoor.PFnExactFirstFlips
open Go.RowKit Go.Proofs.YtgblginphicacaaDoorW.PrintWords Go.Proofs.YtgblginphicacaaDoorW.PrintLast Go.Proofs.YtgblginphicacaaDoorW.PrintMore
attribute [local go_sem] max2_int min2_int max_two min_two max_three min_three max_four min_four   -- for this text's walks alone
set_option linter.unusedVariables false
set_option linter.unusedSimpArgs false

/-! ### strings_Join: function 51 -/
def joinLays_ren : Go.Shelf.Ren := ⟨fun | 156 => 51 | 165 => 66 | 166 => 67 | 169 => 68 | 240 => 78 | 241 => 79 | 276 => 97 | 277 => 98 | n => n, fun | 31 => 69 | 9 => 9 | 3 => 3 | 4 => 4 | 0 => 0 | 20 => 20 | 72 => 80 | 76 => 84 | 70 => 77 | 37 => 78 | 75 => 83 | 127 => 96 | 164 => 113 | 5 => 5 | 80 => 86 | n => n, fun | n => n⟩
theorem joinLays : Go.Proofs.Lays.n156 Tryd.prog joinLays_ren := {
 mixed := by kernel_rfl
 f156 := Tryd.func51.trans (congrArg some (by kernel_rfl))
 f165 := Tryd.func66.trans (congrArg some (by kernel_rfl))
 f166 := Tryd.func67.trans (congrArg some (by kernel_rfl))
 f169 := Tryd.func68.trans (congrArg some (by kernel_rfl))
 f240 := Tryd.func78.trans (congrArg some (by kernel_rfl))
 f241 := Tryd.func79.trans (congrArg some (by kernel_rfl))
 f276 := Tryd.func97.trans (congrArg some (by kernel_rfl))
 f277 := Tryd.func98.trans (congrArg some (by kernel_rfl))
 t0 := Tryd.underlying0
 a0 := Tryd.isAgg0
 z0 := Tryd.sizeOf0
 v0 := Tryd.zeroValue0
 t3 := Tryd.underlying3
 a3 := Tryd.isAgg3
 z3 := Tryd.sizeOf3
 v3 := Tryd.zeroValue3
 t4 := Tryd.underlying4
 a4 := Tryd.isAgg4
 z4 := Tryd.sizeOf4
 v4 := Tryd.zeroValue4
 t9 := Tryd.underlying9
 a9 := Tryd.isAgg9
 z9 := Tryd.sizeOf9
 v9 := Tryd.zeroValue9
 t20 := Tryd.underlying20
 a20 := Tryd.isAgg20
 z20 := Tryd.sizeOf20
 v20 := Tryd.zeroValue20
 t31 := Tryd.underlying69
 a31 := Tryd.isAgg69
 z31 := Tryd.sizeOf69
 v31 := Tryd.zeroValue69
 t37 := Tryd.underlying78
 a37 := Tryd.isAgg78
 z37 := Tryd.sizeOf78
 v37 := Tryd.zeroValue78
 t70 := Tryd.underlying77
 a70 := Tryd.isAgg77
 z70 := Tryd.sizeOf77
 v70 := Tryd.zeroValue77
 t72 := Tryd.underlying80
 a72 := Tryd.isAgg80
 z72 := Tryd.sizeOf80
 v72 := Tryd.zeroValue80
 t75 := Tryd.underlying83
 a75 := Tryd.isAgg83
 z75 := Tryd.sizeOf83
 v75 := Tryd.zeroValue83
 t76 := Tryd.underlying84
 a76 := Tryd.isAgg84
 z76 := Tryd.sizeOf84
 v76 := Tryd.zeroValue84
 t127 := Tryd.underlying96
 a127 := Tryd.isAgg96
 z127 := Tryd.sizeOf96
 v127 := Tryd.zeroValue96
 t164 := Tryd.underlying113
 a164 := Tryd.isAgg113
 z164 := Tryd.sizeOf113
 v164 := Tryd.zeroValue113 }
theorem joinExtra : Builder.Extra Tryd.prog joinLays_ren := {
 sizeBuilder := by kernel_rfl
 liesBuilder := by kernel_rfl
 t5 := Tryd.underlying5
 a5 := Tryd.isAgg5
 z5 := Tryd.sizeOf5
 v5 := Tryd.zeroValue5
 infoByte := by kernel_rfl
 cellsByte := by kernel_rfl
 sizeByte := by kernel_rfl
 neB5 := by decide }

def strings_Join.f (l0 : List ByteArray) (a1 : ByteArray) : Option ByteArray := if l0.length ≤ 1000000 ∧ (Lib.join (l0.map (·.data.toList)) a1.data.toList).length ≤ 140737488355328 then some ⟨(Lib.join (l0.map (·.data.toList)) a1.data.toList).toArray⟩ else none
theorem cell_home {w : World} {ad : Addr} {v : Value} (h : w.cell? ad = some v) : ad = ⟨ad.block, ad.off, none⟩ ∧ ad.block < w.heap.size := by
 unfold World.cell? at h
 obtain ⟨b, o, s⟩ := ad
 refine ⟨?_, ?_⟩
 ·cases s with
  | none => rfl
  | some x =>
   simp only [Option.isSome_some, if_true] at h
   split at h <;> cases h
 ·rcases Nat.lt_or_ge b w.heap.size with h' | h'
  ·exact h'
  ·rw [Array.getElem?_eq_none h'] at h; cases h
theorem strings_Join.calls (A : Option Addr) (c : Nat) (l0 : List ByteArray) (a1 r : ByteArray) (w : World) (hC : Kd.string.C w A l0.length l0) (hcap : l0.length ≤ c) (h : strings_Join.f l0 a1 = some r) :
  Calls Tryd.prog 51 #[.slice A l0.length c, .string a1] w fun e w' => e = .returned (.string r) ∧ Below w.heap.size w w' := by
 have H : (if l0.length ≤ 1000000 ∧ (Lib.join (l0.map (·.data.toList)) a1.data.toList).length ≤ 140737488355328 then some (⟨(Lib.join (l0.map (·.data.toList)) a1.data.toList).toArray⟩ : ByteArray) else none) = some r := h
 clear h
 by_cases hc : l0.length ≤ 1000000 ∧ (Lib.join (l0.map (·.data.toList)) a1.data.toList).length ≤ 140737488355328
 ·rw [if_pos hc] at H
  obtain rfl := Option.some.inj H
  clear H
  cases l0 with
  | nil =>
   refine (Any.strings_Join_none joinLays joinExtra A c a1 w).mono ?_
   rintro e w' ⟨rfl, rfl⟩
   exact ⟨rfl, Below.refl _ _⟩
  | cons x l =>
   obtain ⟨ad, rfl, h0⟩ := Kd.at_string hC 0 (Int.le_refl 0) (by simp only [List.length_cons]; omega)
   have e0 : ad.add (0 : Int).toNat = ad := rfl
   rw [e0] at h0
   obtain ⟨he, hlt⟩ := cell_home h0
   obtain ⟨b, o, s⟩ := ad
   injection he with _ _ hs
   subst hs
   refine Any.strings_Join joinLays joinExtra b o c (x :: l) a1 w (fun j y hy => ?_) hlt (by have := hc.1; omega) hcap hc.2
   have hj : j < (x :: l).length := (List.getElem?_eq_some_iff.1 hy).1
   obtain ⟨ad', ha', h1⟩ := Kd.at_string hC (j : Int) (by omega) (by omega)
   injection ha' with ha'
   subst ha'
   have e1 : rdOf ByteArray.empty (x :: l) (j : Int) = y := by
    unfold rdOf
    rw [Int.toNat_natCast, List.getD_eq_getElem?_getD, hy]
    rfl
   rw [e1, Int.toNat_natCast] at h1
   have e2 : (⟨b, o, none⟩ : Addr).add j = ⟨b, o + j, none⟩ := by
    unfold Addr.add
    by_cases hz : j = 0
    ·rw [if_pos hz, hz]
     rfl
    ·rw [if_neg hz]
   rw [e2] at h1
   exact h1
 ·rw [if_neg hc] at H
  cases H

/-! ### impl_diagonalsText: function 32 -/
def impl_diagonalsText.l0 : Nat → List ByteArray → List (S49) → Int → Int → Option (ByteArray)
 | 0, _, _, _, _ => none
 | k + 1, x3, x10, x11, x12 => if x12 < x11 then (if 0 ≤ x12 then (if x12 < (x10.length : Int) then ((strconv_Itoa.f ((rd_T49 x10 x12).f0)).bind fun t335 => (if t335.size + 1 ≤ 9223372036854775807 then ((strconv_Itoa.f ((rd_T49 x10 x12).f1)).bind fun t336 => (if (t335 ++ (⟨#[45]⟩ : ByteArray)).size + t336.size ≤ 9223372036854775807 then (if x3.length < 8796093022208 then (impl_diagonalsText.l0 k (x3 ++ [(t335 ++ (⟨#[45]⟩ : ByteArray)) ++ t336]) x10 x11 (wrap64 (x12 + 1))) else (none)) else (none))) else (none))) else (none)) else (none)) else ((strings_Join.f x3 (⟨#[44]⟩ : ByteArray)).bind fun t340 => (some t340))
def impl_diagonalsText.f (k : Nat) (l0 : List (S49)) : Option (ByteArray) := if (l0.length : Int) = 0 then (some (⟨#[46]⟩ : ByteArray)) else (impl_diagonalsText.l0 k (([] : List ByteArray)) l0 (l0.length : Int) 0)
theorem impl_diagonalsText.mono_l : ∀ k, (∀ y0 y1 y2 y3, LeO (impl_diagonalsText.l0 k y0 y1 y2 y3) (impl_diagonalsText.l0 (k + 1) y0 y1 y2 y3))
 | 0 => fun _ _ _ _ r h => by simp [impl_diagonalsText.l0] at h
 | k + 1 => by
  have ih0 := impl_diagonalsText.mono_l k
  ·intro y0 y1 y2 y3
   unfold impl_diagonalsText.l0
   repeat' first
   | (with_reducible exact ih0 _ _ _ _)
   | (with_reducible exact LeO.refl _)
   | (with_reducible exact LeO.none _)
   | (with_reducible refine LeO.ite ?_ ?_)
   | (with_reducible refine LeO.bind ?_ (fun _ => ?_))
   | exact ih0 _ _ _ _
   | exact LeO.none _
   | refine LeO.ite ?_ ?_
   | refine LeO.bind ?_ (fun _ => ?_)
theorem impl_diagonalsText.mono : ∀ a0 k, LeO (impl_diagonalsText.f k a0) (impl_diagonalsText.f (k + 1) a0) := by
 intro a0 k
 have ih0 := impl_diagonalsText.mono_l k
 unfold impl_diagonalsText.f
 repeat' first
   | (with_reducible exact ih0 _ _ _ _)
   | (with_reducible exact LeO.refl _)
   | (with_reducible exact LeO.none _)
   | (with_reducible refine LeO.ite ?_ ?_)
   | (with_reducible refine LeO.bind ?_ (fun _ => ?_))
   | exact ih0 _ _ _ _
   | exact LeO.none _
   | refine LeO.ite ?_ ?_
   | refine LeO.bind ?_ (fun _ => ?_)
def impl_diagonalsText.T7 : Bool × List (List Nat × List Nat) := (true, [([], []), ([], []), ([1], [1]), ([2], [2]), ([3], [3]), ([], []), ([5], [5]), ([6, 3], [6]), ([4, 7], [4, 7]), ([8], [8]), ([0, 9, 7], [0, 9]), ([10, 10, 0, 1, 2, 3, 4, 5, 6, 7, 8, 9, 10], [0, 10])])
def impl_diagonalsText.B7 : List Nat := [0, 0, 2, 6, 14, 0, 32, 110, 254, 510, 1023, 2047]
theorem impl_diagonalsText.tab7 : rtab .any (opsOf Tryd.f32 7) = impl_diagonalsText.T7 := by kernel_rfl
theorem impl_diagonalsText.bits7 : waitsOk impl_diagonalsText.T7.2 impl_diagonalsText.B7 = true := by kernel_rfl
set_option maxHeartbeats 8000000 in
set_option maxRecDepth 100000 in
theorem impl_diagonalsText.calls (k : Nat) (A0 : Option Addr) (c0 : Nat) (l0 : List (S49)) (r : ByteArray) (w : World) (hr0 : Kd.C k49 w A0 l0.length l0) (hc0 : l0.length ≤ c0) (h : impl_diagonalsText.f k l0 = some r) (htab : TabOk w) :
  Calls Tryd.prog 32 #[.slice A0 l0.length c0] w fun e w' => e = .returned (.string r) ∧ Below w.heap.size w w' := by
 have hu49 := Tryd.underlying49
 have HR0 := Aside0.mk hr0
 have HC0 := Aside0.mk hc0
 clear hr0 hc0
 have HB := Aside0.mk (Below.refl w.heap.size w)
 have HTAB := Aside0.mk htab
 clear htab
 have H : (if (l0.length : Int) = 0 then (some (⟨#[46]⟩ : ByteArray)) else (impl_diagonalsText.l0 k (([] : List ByteArray)) l0 (l0.length : Int) 0)) = some r := h
 clear h
 by_cases c2 : (l0.length : Int) = 0
 ·rw [if_pos c2] at H
  have c2b0 : ((l0.length : Int) == 0) = true := beq_iff_eq.mpr c2
  have c2b1 : ((l0.length : Int) != 0) = false := bne_eq_false_iff_eq.mpr c2
  clear c2
  obtain rfl := Option.some.inj H
  go_enter Tryd.func32, Tryd.ntmps32
  go_wp2
  go_ret
  exact er_
 ·rw [if_neg c2] at H
  have c2b0 : ((l0.length : Int) == 0) = false := beq_eq_false_iff_ne.mpr c2
  have c2b1 : ((l0.length : Int) != 0) = true := bne_iff_ne.mpr c2
  have c2b2 : ¬ (l0 = []) := fun h_ => c2 (by rw [h_]; rfl)
  obtain ⟨y330, hy330⟩ : ∃ y_ : List ByteArray, y_ = (([] : List ByteArray)) := ⟨_, rfl⟩
  replace H : (impl_diagonalsText.l0 k y330 l0 (l0.length : Int) 0) = some r := hyy_ hy330 H
  have Ny330 := Aside0.mk hy330
  clear hy330
  have H' := Aside0.mk H
  clear H
  go_enter Tryd.func32, Tryd.ntmps32
  go_wp2_with (first | ((with_reducible refine gate_dst (N := 9) rfl ?_); refine Kd.R_lit Kd.string _ 9 ?hg (N := 9) ?hd (xs := ([] : List ByteArray)) (inner := []) (ok := fun _ => True) (okp := fun _ => True) ?hr ?hp (fun _ hk => hk) trivial (Below.refl _ _) (Nat.le_refl _) (by simp) ?_; (case hd => rfl); (case hg => rfl); (case hr => first | (go_simp; done) | (go_simp; rfl)); (case hp => exact (Reps.none _ _)); intro v331 w3 ho4 hb hg_ hnew_; clear hg_ hnew_; (first | rw [← Ny330.out] at ho4 | (simp only [Int.reduceToNat] at ho4; rw [← Ny330.out] at ho4)); have HO332 := Aside0.mk (Kd.R_lower ho4 (below_size blw_)); replace HB := Aside0.mk (below_step blw_ hb); clear hb ho4))
  go_loopg [3, 12] k (fun kq v3 v12 w' => ∃ (x3_1 : List ByteArray) (x12_1 : Int), v12 = .int .i64 x12_1 ∧ Aside0 (impl_diagonalsText.l0 kq x3_1 l0 (l0.length : Int) x12_1 = some r) ∧ Aside0 (kq ≤ k) ∧ Aside0 (Kd.R Kd.string 9 w' w.heap.size (fun _ => True) v3 x3_1) ∧ Aside0 (Below w.heap.size w w'))
  case atStart => exact ⟨(y330), (0), rsd_, H', ⟨Nat.le_refl _⟩, ⟨ra_ HO332.out⟩, ⟨blw_⟩⟩
  case round =>
   clear H'
   try clear c2
   try clear c2b0
   try clear c2b1
   try clear c2b2
   try clear p2
   try clear c3
   try clear HO_3
   obtain ⟨x3_1, x12_1, rfl, HA, HK1, HO_3, HB⟩ := hrel
   cases gk with
   | zero => exact absurd HA.out (by simp [impl_diagonalsText.l0])
   | succ k1 =>
    have H := HA.out
    clear HA
    simp only [impl_diagonalsText.l0] at H
    by_cases c5 : x12_1 < (l0.length : Int)
    ·rw [if_pos c5] at H
     have c5b0 : decide (x12_1 < (l0.length : Int)) = true := decide_eq_true c5
     clear c5
     by_cases c6 : 0 ≤ x12_1
     case neg=>rw [if_neg c6] at H;exact absurd H (by simp)
     rw [if_pos c6] at H
     have c6b0 : decide (0 ≤ x12_1) = true := decide_eq_true c6
     clear c6
     by_cases c7 : x12_1 < (l0.length : Int)
     case neg=>rw [if_neg c7] at H;exact absurd H (by simp)
     rw [if_pos c7] at H
     have c7b0 : decide (x12_1 < (l0.length : Int)) = true := decide_eq_true c7
     clear c7
     replace H := Option.bind_eq_some_iff.mp H
     obtain ⟨t335, A80, H⟩ := H
     replace H : (if t335.size + 1 ≤ 9223372036854775807 then ((strconv_Itoa.f ((rd_T49 l0 x12_1).f1)).bind fun t336 => (if (t335 ++ (⟨#[45]⟩ : ByteArray)).size + t336.size ≤ 9223372036854775807 then (if x3_1.length < 8796093022208 then (impl_diagonalsText.l0 k1 (x3_1 ++ [(t335 ++ (⟨#[45]⟩ : ByteArray)) ++ t336]) l0 (l0.length : Int) (wrap64 (x12_1 + 1))) else (none)) else (none))) else (none)) = some r := H
     have A8 := Aside0.mk A80
     clear A80
     by_cases c9 : t335.size + 1 ≤ 9223372036854775807
     case neg=>rw [if_neg c9] at H;exact absurd H (by simp)
     rw [if_pos c9] at H
     have c9b0 := eq_true c9
     have c9b1 : decide (t335.size + 1 ≤ 9223372036854775807) = true := decide_eq_true c9
     try have c9b2 : (9223372036854775807 < t335.size + 1) = False := eq_false (Nat.not_lt.2 c9)
     replace H := Option.bind_eq_some_iff.mp H
     obtain ⟨t336, A100, H⟩ := H
     replace H : (if (t335 ++ (⟨#[45]⟩ : ByteArray)).size + t336.size ≤ 9223372036854775807 then (if x3_1.length < 8796093022208 then (impl_diagonalsText.l0 k1 (x3_1 ++ [(t335 ++ (⟨#[45]⟩ : ByteArray)) ++ t336]) l0 (l0.length : Int) (wrap64 (x12_1 + 1))) else (none)) else (none)) = some r := H
     have A10 := Aside0.mk A100
     clear A100
     by_cases c11 : (t335 ++ (⟨#[45]⟩ : ByteArray)).size + t336.size ≤ 9223372036854775807
     case neg=>rw [if_neg c11] at H;exact absurd H (by simp)
     rw [if_pos c11] at H
     have c11b0 := eq_true c11
     have c11b1 : decide ((t335 ++ (⟨#[45]⟩ : ByteArray)).size + t336.size ≤ 9223372036854775807) = true := decide_eq_true c11
     try have c11b2 : (9223372036854775807 < (t335 ++ (⟨#[45]⟩ : ByteArray)).size + t336.size) = False := eq_false (Nat.not_lt.2 c11)
     try (have c11b8 := c11b2; simp only [ByteArray.size_append, show (⟨#[45]⟩ : ByteArray).size = 1 from rfl] at c11b8)
     by_cases c12 : x3_1.length < 8796093022208
     case neg=>rw [if_neg c12] at H;exact absurd H (by simp)
     rw [if_pos c12] at H
     have LMc12 := Aside0.mk c12
     clear c12
     obtain ⟨y337, hy337⟩ : ∃ y_ : List ByteArray, y_ = (x3_1 ++ [(t335 ++ (⟨#[45]⟩ : ByteArray)) ++ t336]) := ⟨_, rfl⟩
     replace H : (impl_diagonalsText.l0 k1 y337 l0 (l0.length : Int) (wrap64 (x12_1 + 1))) = some r := hyy_ hy337 H
     have Ny337 := Aside0.mk hy337
     clear hy337
     have H' := Aside0.mk H
     clear H
     have p333 : 0 ≤ (x12_1 : Int) := odt_
     have q333 : x12_1 < (l0.length : Int) := odt_
     obtain ⟨ad333, e333, hx333_0, hx333_1⟩ := at_T49 HR0.out x12_1 p333 q333
     cases e333
     (first | replace hx333_0 := (HB.out.cell (World.block_lt_of_cell? w _ hx333_0)).trans hx333_0 | skip)
     (first | replace hx333_1 := (HB.out.cell (World.block_lt_of_cell? w _ hx333_1)).trans hx333_1 | skip)
     replace p333 := eq_true p333
     replace q333 := eq_true q333
     try go_wp2_with (first | ((with_reducible refine gate_dst (N := 5) rfl ?_); refine bxe_ 5 #[.int .i64 0, .int .i64 0] 49 ?_; intro gb334 hg w13 hbox hb; have BK334 := Aside0.mk (hbox); have GW334 := gz_ w hg; have GE334 := gz_ w hg; replace HO_3 := Aside0.mk (Kd.R_below (ra_ HO_3.out) hb); replace HB := Aside0.mk (below_step blw_ hb); clear hb hbox hg; have hcz14_0 := blc_ (.int .i64 0) BK334 0; have hcz14_1 := blc_ (.int .i64 0) BK334 1; have hfz14_0 := blk_frozen BK334.out 0; have hfz14_1 := blk_frozen BK334.out 1))
     have n0_ : Aside0 (Kd.R Kd.string 9 ((w13.setCell ⟨gb334, 0, none⟩ (.int .i64 ((rd_T49 l0 x12_1).f0))).setCell ⟨gb334, 1, none⟩ (.int .i64 ((rd_T49 l0 x12_1).f1))) w.heap.size (fun _ => True) u3 x3_1) := ⟨by (with_reducible repeat (first | apply Kd.R_alloc | apply Kd.R_drewN | apply Kd.R_drew)); exact Kd.R_mono (Kd.R_far (p := ⟨gb334, 1, none⟩) (Kd.R_far (p := ⟨gb334, 0, none⟩) (Kd.R_types HO_3.out BK334.out (by decide)) (fun _ hk => hk.2) (.int .i64 ((rd_T49 l0 x12_1).f0))) (fun _ hk => hk.2) (.int .i64 ((rd_T49 l0 x12_1).f1))) (fun _ hk => trivial)⟩
     have n1_ : Aside0 (((w13.setCell ⟨gb334, 0, none⟩ (.int .i64 ((rd_T49 l0 x12_1).f0))).setCell ⟨gb334, 1, none⟩ (.int .i64 ((rd_T49 l0 x12_1).f1))).heap[gb334]? = some (.cells #[.int .i64 ((rd_T49 l0 x12_1).f0), .int .i64 ((rd_T49 l0 x12_1).f1)] 49 (0, 0))) := ⟨by (with_reducible repeat (first | refine blk_drewN ?_ _ | refine blk_drew ?_ | refine blk_alloc ?_ _)); refine blk_put (cs := #[.int .i64 ((rd_T49 l0 x12_1).f0), .int .i64 0]) ?_ 1 _ rfl; (with_reducible repeat (first | refine blk_drewN ?_ _ | refine blk_drew ?_ | refine blk_alloc ?_ _)); refine blk_put (cs := #[.int .i64 0, .int .i64 0]) ?_ 0 _ rfl; (with_reducible repeat (first | refine blk_drewN ?_ _ | refine blk_drew ?_ | refine blk_alloc ?_ _)); exact BK334.out⟩
     have n2_ : Aside0 (Below w.heap.size w ((w13.setCell ⟨gb334, 0, none⟩ (.int .i64 ((rd_T49 l0 x12_1).f0))).setCell ⟨gb334, 1, none⟩ (.int .i64 ((rd_T49 l0 x12_1).f1)))) := ⟨bls_⟩
     (try clear HO_3)
     (try clear BK334)
     (try clear HB)
     generalize ((w13.setCell ⟨gb334, 0, none⟩ (.int .i64 ((rd_T49 l0 x12_1).f0))).setCell ⟨gb334, 1, none⟩ (.int .i64 ((rd_T49 l0 x12_1).f1))) = w15 at n0_ n1_ n2_ ⊢
     have HO_3 := n0_
     have BK334 := n1_
     have HB := n2_
     clear n0_ n1_ n2_
     replace HO_3 := Aside0.mk (Kd.R_drew HO_3.out)
     replace BK334 := Aside0.mk (blk_drew BK334.out)
     replace HB := Aside0.mk (below_drew1 HB.out)
     refine start_ (n := 12) (S := fun w' => w'.cell? ⟨gb334, 0, none⟩ = some (.int .i64 ((rd_T49 l0 x12_1).f0)) ∧ w'.cell? ⟨gb334, 1, none⟩ = some (.int .i64 ((rd_T49 l0 x12_1).f1))) (ds := []) #[false, false, false, false, false, false, false, false, false, false, false, false] (by kernel_rfl) rfl rfl ⟨(blk_cell BK334.out 0).trans rfl, (blk_cell BK334.out 1).trans rfl⟩ (fun hHeld => ?_); refine with_tabW impl_diagonalsText.tab7 impl_diagonalsText.bits7 (fun HT_ HW_ => ?_)
     generalize w15.drew = w16 at HO_3 BK334 HB hHeld ⊢
     refine pux_ 0 16 HT_ ?_
     refine pux_ 1 17 HT_ ?_
     refine pux_ 5 21 HT_ ?_
     refine tak_ 2 18 HT_ HW_ hHeld ?_
     refine tak_ 6 22 HT_ HW_ hHeld ?_
     refine oner_ 3 19 HT_ (fun K hK => ?_)
     refine goes_ Tryd.func50 (by kernel_rfl) rfl #[.int .i64 ((rd_T49 l0 x12_1).f0)] (by rfl) rfl rfl amp_ ?_
     with_reducible refine (strconv_Itoa.calls ((rd_T49 l0 x12_1).f0) t335 _ A8.out (HTAB.out.below bls_)).mono ?_
     rintro e w17 ⟨rfl, hb⟩
     refine ⟨_, rfl, ?_⟩
     replace HO_3 := Aside0.mk (Kd.R_below (ra_ HO_3.out) hb)
     replace BK334 := bb_ BK334 hb
     replace HB := Aside0.mk (below_step bls_ hb)
     (try clear hb)
     (try clear hb2)
     (try clear hk)
     (try clear hi)
     refine hK.out _ _ ⟨(blk_cell BK334.out 0).trans rfl, (blk_cell BK334.out 1).trans rfl⟩ (fun hHeld => ?_)
     clear hK K
     refine nor_ 19 ?_
     refine pux_ 4 20 HT_ ?_
     refine oner_ 7 23 HT_ (fun K hK => ?_)
     refine goes_ Tryd.func50 (by kernel_rfl) rfl #[.int .i64 ((rd_T49 l0 x12_1).f1)] (by rfl) rfl rfl amp_ ?_
     with_reducible refine (strconv_Itoa.calls ((rd_T49 l0 x12_1).f1) t336 _ A10.out (HTAB.out.below bls_)).mono ?_
     rintro e w18 ⟨rfl, hb⟩
     refine ⟨_, rfl, ?_⟩
     replace HO_3 := Aside0.mk (Kd.R_below (ra_ HO_3.out) hb)
     replace BK334 := bb_ BK334 hb
     replace HB := Aside0.mk (below_step bls_ hb)
     (try clear hb)
     (try clear hb2)
     (try clear hk)
     (try clear hi)
     refine hK.out _ _ ⟨(blk_cell BK334.out 0).trans rfl, (blk_cell BK334.out 1).trans rfl⟩ (fun hHeld => ?_)
     clear hK K
     refine nor_ 23 ?_
     refine pux_ 8 24 HT_ ?_
     refine oner_ 9 25 HT_ (fun K hK => ?_)
     refine value_ (w1 := ?_) (v := ?_) (by rfl) rfl ?_ ?_
     rotate_left 2
     ·go_simp
      constructor
      ·rfl
      ·rfl
     refine hK.out _ _ ⟨(blk_cell (blk_alloc BK334.out _) 0).trans rfl, (blk_cell (blk_alloc BK334.out _) 1).trans rfl⟩ (fun hHeld => ?_)
     clear hK K
     refine nor_ 25 ?_
     refine oner_ 10 26 HT_ (fun K hK => ?_)
     refine Kd.R_append_step Kd.string (w0 := w) w.heap.size (by rfl) (.tmp 16) (.tmp 25) 69 9 (.string ⟨#[]⟩) 16 rfl Tryd.underlying69 info9 rfl (by decide) (by omega) u3 x3_1 ((t335 ++ (⟨#[45]⟩ : ByteArray)) ++ t336) [.string ((t335 ++ (⟨#[45]⟩ : ByteArray)) ++ t336)] (fun _ => True) (fun _ => False) rfl rfl ?aP (fun _ hk => hk.elim) ?aF ?aO ?aB ?aS ?aL ?_
     (case aP => exact rfl)
     (case aB => exact bls_)
     (case aF => exact (fun _ _ => trivial))
     (case aO => exact (ra_ HO_3.out))
     (case aS => exact (below_size bls_))
     (case aL => have := LMc12.out; omega)
     intro v338 w19 ho hb hg hat
     rw [← Ny337.out] at ho
     have HO339 := Aside0.mk (ho)
     replace BK334 := Aside0.mk (blk_grown (g := gb334) (o := .cells #[.int .i64 ((rd_T49 l0 x12_1).f0), .int .i64 ((rd_T49 l0 x12_1).f1)] 49 (0, 0)) (bk_ BK334.out) hg (Kd.R_ne HO_3.out BK334.out (by decide)))
     replace HB := Aside0.mk (hb)
     clear HO_3
     clear ho hb hg hat
     refine hK.out _ _ ⟨(blk_cell BK334.out 0).trans rfl, (blk_cell BK334.out 1).trans rfl⟩ (fun hHeld => ?_)
     clear hK K
     refine nor_ 26 ?_
     refine pux_ 11 3 HT_ ?_
     refine done_ (done_of HT_.out (by kernel_rfl)) ?_
     try go_wp2
     go_roundg k1
     case measure => have := HK1.out; omega
     case rel => exact ⟨(y337), (wrap64 (x12_1 + 1)), rsd_, H', ⟨by have := HK1.out; omega⟩, ⟨ra_ HO339.out⟩, ⟨bls_⟩⟩
    ·rw [if_neg c5] at H
     have c5b0 : decide (x12_1 < (l0.length : Int)) = false := decide_eq_false c5
     clear c5
     replace H := Option.bind_eq_some_iff.mp H
     obtain ⟨t340, A200, H⟩ := H
     replace H : (some t340) = some r := H
     have A20 := Aside0.mk A200
     clear A200
     obtain rfl := Option.some.inj H
     obtain ⟨Ao21, co21, eo21⟩ := Kd.R_slice HO_3.out
     subst eo21
     go_wp2_with (first | ((with_reducible refine gate_callee (f := 51) rfl ?_); refine goesL_ (some 29) rfl rfl Tryd.func51 (by kernel_rfl) rfl #[.slice Ao21 x3_1.length co21, .string (⟨#[44]⟩ : ByteArray)] rfl amp_ ?_; (with_reducible refine (strings_Join.calls _ _ x3_1 (⟨#[44]⟩ : ByteArray) t340 _ ?side1 ?side2 A20.out).mono ?_); (case side1 => exact cd_ (Kd.R_reads' HO_3.out).2.2); (case side2 => exact (Kd.R_reads' HO_3.out).2.1); rintro e w22 ⟨rfl, hb⟩; refine ⟨_, rfl, ?_⟩; replace HO_3 := Aside0.mk (Kd.R_below (ra_ HO_3.out) hb); replace HB := Aside0.mk (below_step blw_ hb); (try clear hb); (try clear hb2); (try clear hk); (try clear hi)))
     go_ret
     exact er_

/-! ### impl_isDiagonal: function 60 -/
def impl_isDiagonal.f (a0 : Int) (a1_0 : Int) (a1_1 : Int) : Option (Bool) := (impl_within.f a1_0 0 (wrap64 (a0 - 1))).bind fun t342 => (if t342 = true then ((impl_within.f a1_1 0 (wrap64 (a0 - 1))).bind fun t343 => (if t343 = true then (if (wrap64 (a1_1 - a1_0)) > 1 then (if a1_0 = 0 then (some (!(a1_1 == (wrap64 (a0 - 1))))) else (some (!false))) else (some false)) else (some false))) else (some false))
set_option maxHeartbeats 8000000 in
set_option maxRecDepth 100000 in
theorem impl_isDiagonal.calls (a0 : Int) (a1_0 : Int) (a1_1 : Int) (r : Bool) (w : World) (h : impl_isDiagonal.f a0 a1_0 a1_1 = some r) :
  Calls Tryd.prog 60 #[.int .i64 a0, .agg #[.int .i64 a1_0, .int .i64 a1_1]] w fun e w' => e = .returned (.bool r) ∧ Below w.heap.size w w' := by
 have hu49 := Tryd.underlying49
 have HB := Aside0.mk (Below.refl w.heap.size w)
 have H : ((impl_within.f a1_0 0 (wrap64 (a0 - 1))).bind fun t342 => (if t342 = true then ((impl_within.f a1_1 0 (wrap64 (a0 - 1))).bind fun t343 => (if t343 = true then (if (wrap64 (a1_1 - a1_0)) > 1 then (if a1_0 = 0 then (some (!(a1_1 == (wrap64 (a0 - 1))))) else (some (!false))) else (some false)) else (some false))) else (some false))) = some r := h
 clear h
 replace H := Option.bind_eq_some_iff.mp H
 obtain ⟨t342, A30, H⟩ := H
 replace H : (if t342 = true then ((impl_within.f a1_1 0 (wrap64 (a0 - 1))).bind fun t343 => (if t343 = true then (if (wrap64 (a1_1 - a1_0)) > 1 then (if a1_0 = 0 then (some (!(a1_1 == (wrap64 (a0 - 1))))) else (some (!false))) else (some false)) else (some false))) else (some false)) = some r := H
 have A3 := Aside0.mk A30
 clear A30
 by_cases c4 : t342 = true
 ·subst c4
  replace H : ((impl_within.f a1_1 0 (wrap64 (a0 - 1))).bind fun t343 => (if t343 = true then (if (wrap64 (a1_1 - a1_0)) > 1 then (if a1_0 = 0 then (some (!(a1_1 == (wrap64 (a0 - 1))))) else (some (!false))) else (some false)) else (some false))) = some r := by rw [if_pos rfl] at H; exact H
  replace H := Option.bind_eq_some_iff.mp H
  obtain ⟨t343, A50, H⟩ := H
  replace H : (if t343 = true then (if (wrap64 (a1_1 - a1_0)) > 1 then (if a1_0 = 0 then (some (!(a1_1 == (wrap64 (a0 - 1))))) else (some (!false))) else (some false)) else (some false)) = some r := H
  have A5 := Aside0.mk A50
  clear A50
  by_cases c6 : t343 = true
  ·subst c6
   replace H : (if (wrap64 (a1_1 - a1_0)) > 1 then (if a1_0 = 0 then (some (!(a1_1 == (wrap64 (a0 - 1))))) else (some (!false))) else (some false)) = some r := by rw [if_pos rfl] at H; exact H
   by_cases c7 : (wrap64 (a1_1 - a1_0)) > 1
   ·rw [if_pos c7] at H
    have c7b0 : decide (1 < (wrap64 (a1_1 - a1_0))) = true := decide_eq_true c7
    clear c7
    by_cases c8 : a1_0 = 0
    ·rw [if_pos c8] at H
     have c8b0 : (a1_0 == 0) = true := beq_iff_eq.mpr c8
     have c8b1 : (a1_0 != 0) = false := bne_eq_false_iff_eq.mpr c8
     clear c8
     obtain rfl := Option.some.inj H
     go_enter Tryd.func60, Tryd.ntmps60
     go_wp2_with (first | ((with_reducible refine gate_dst (N := 3) rfl ?_); refine bxe_ 3 #[.int .i64 a1_0, .int .i64 a1_1] 49 ?_; intro gb341 hg w9 hbox hb; have BK341 := Aside0.mk (hbox); have GW341 := gz_ w hg; have GE341 := gz_ w hg; replace HB := Aside0.mk (below_step blw_ hb); clear hb hbox hg; have hcz10_0 := blc_ (.int .i64 a1_0) BK341 0; have hcz10_1 := blc_ (.int .i64 a1_1) BK341 1; have hfz10_0 := blk_frozen BK341.out 0; have hfz10_1 := blk_frozen BK341.out 1) | ((with_reducible refine gate_callee (f := 24) rfl ?_); refine goesL_ (some 9) rfl rfl Tryd.func24 (by kernel_rfl) rfl #[.int .i64 a1_0, .int .i64 0, .int .i64 (wrap64 (a0 - 1))] rfl amp_ ?_; (with_reducible refine (impl_within.calls a1_0 0 (wrap64 (a0 - 1)) true _ A3.out).mono ?_); rintro e w' ⟨rfl, ⟨nd, rfl⟩⟩; refine ⟨_, rfl, ?_⟩) | (go_at_call 24; (with_reducible refine (impl_within.calls a1_1 0 (wrap64 (a0 - 1)) true _ A5.out).mono ?_); rintro e w' ⟨rfl, ⟨nd, rfl⟩⟩))
     go_ret
     exact er_
    ·rw [if_neg c8] at H
     have c8b0 : (a1_0 == 0) = false := beq_eq_false_iff_ne.mpr c8
     have c8b1 : (a1_0 != 0) = true := bne_iff_ne.mpr c8
     obtain rfl := Option.some.inj H
     go_enter Tryd.func60, Tryd.ntmps60
     go_wp2_with (first | ((with_reducible refine gate_dst (N := 3) rfl ?_); refine bxe_ 3 #[.int .i64 a1_0, .int .i64 a1_1] 49 ?_; intro gb341 hg w11 hbox hb; have BK341 := Aside0.mk (hbox); have GW341 := gz_ w hg; have GE341 := gz_ w hg; replace HB := Aside0.mk (below_step blw_ hb); clear hb hbox hg; have hcz12_0 := blc_ (.int .i64 a1_0) BK341 0; have hcz12_1 := blc_ (.int .i64 a1_1) BK341 1; have hfz12_0 := blk_frozen BK341.out 0; have hfz12_1 := blk_frozen BK341.out 1) | ((with_reducible refine gate_callee (f := 24) rfl ?_); refine goesL_ (some 9) rfl rfl Tryd.func24 (by kernel_rfl) rfl #[.int .i64 a1_0, .int .i64 0, .int .i64 (wrap64 (a0 - 1))] rfl amp_ ?_; (with_reducible refine (impl_within.calls a1_0 0 (wrap64 (a0 - 1)) true _ A3.out).mono ?_); rintro e w' ⟨rfl, ⟨nd, rfl⟩⟩; refine ⟨_, rfl, ?_⟩) | (go_at_call 24; (with_reducible refine (impl_within.calls a1_1 0 (wrap64 (a0 - 1)) true _ A5.out).mono ?_); rintro e w' ⟨rfl, ⟨nd, rfl⟩⟩))
     go_ret
     exact er_
   ·rw [if_neg c7] at H
    have c7b0 : decide (1 < (wrap64 (a1_1 - a1_0))) = false := decide_eq_false c7
    clear c7
    obtain rfl := Option.some.inj H
    go_enter Tryd.func60, Tryd.ntmps60
    go_wp2_with (first | ((with_reducible refine gate_dst (N := 3) rfl ?_); refine bxe_ 3 #[.int .i64 a1_0, .int .i64 a1_1] 49 ?_; intro gb341 hg w13 hbox hb; have BK341 := Aside0.mk (hbox); have GW341 := gz_ w hg; have GE341 := gz_ w hg; replace HB := Aside0.mk (below_step blw_ hb); clear hb hbox hg; have hcz14_0 := blc_ (.int .i64 a1_0) BK341 0; have hcz14_1 := blc_ (.int .i64 a1_1) BK341 1; have hfz14_0 := blk_frozen BK341.out 0; have hfz14_1 := blk_frozen BK341.out 1) | ((with_reducible refine gate_callee (f := 24) rfl ?_); refine goesL_ (some 9) rfl rfl Tryd.func24 (by kernel_rfl) rfl #[.int .i64 a1_0, .int .i64 0, .int .i64 (wrap64 (a0 - 1))] rfl amp_ ?_; (with_reducible refine (impl_within.calls a1_0 0 (wrap64 (a0 - 1)) true _ A3.out).mono ?_); rintro e w' ⟨rfl, ⟨nd, rfl⟩⟩; refine ⟨_, rfl, ?_⟩) | (go_at_call 24; (with_reducible refine (impl_within.calls a1_1 0 (wrap64 (a0 - 1)) true _ A5.out).mono ?_); rintro e w' ⟨rfl, ⟨nd, rfl⟩⟩))
    go_ret
    exact er_
  ·replace c6 := Bool.eq_false_iff.mpr c6
   subst c6
   replace H : (some false) = some r := by rw [if_neg (show ¬ (false = true) by decide)] at H; exact H
   obtain rfl := Option.some.inj H
   go_enter Tryd.func60, Tryd.ntmps60
   go_wp2_with (first | ((with_reducible refine gate_dst (N := 3) rfl ?_); refine bxe_ 3 #[.int .i64 a1_0, .int .i64 a1_1] 49 ?_; intro gb341 hg w15 hbox hb; have BK341 := Aside0.mk (hbox); have GW341 := gz_ w hg; have GE341 := gz_ w hg; replace HB := Aside0.mk (below_step blw_ hb); clear hb hbox hg; have hcz16_0 := blc_ (.int .i64 a1_0) BK341 0; have hcz16_1 := blc_ (.int .i64 a1_1) BK341 1; have hfz16_0 := blk_frozen BK341.out 0; have hfz16_1 := blk_frozen BK341.out 1) | ((with_reducible refine gate_callee (f := 24) rfl ?_); refine goesL_ (some 9) rfl rfl Tryd.func24 (by kernel_rfl) rfl #[.int .i64 a1_0, .int .i64 0, .int .i64 (wrap64 (a0 - 1))] rfl amp_ ?_; (with_reducible refine (impl_within.calls a1_0 0 (wrap64 (a0 - 1)) true _ A3.out).mono ?_); rintro e w' ⟨rfl, ⟨nd, rfl⟩⟩; refine ⟨_, rfl, ?_⟩) | (go_at_call 24; (with_reducible refine (impl_within.calls a1_1 0 (wrap64 (a0 - 1)) false _ A5.out).mono ?_); rintro e w' ⟨rfl, ⟨nd, rfl⟩⟩))
   go_ret
   exact er_
 ·replace c4 := Bool.eq_false_iff.mpr c4
  subst c4
  replace H : (some false) = some r := by rw [if_neg (show ¬ (false = true) by decide)] at H; exact H
  obtain rfl := Option.some.inj H
  go_enter Tryd.func60, Tryd.ntmps60
  go_wp2_with (first | ((with_reducible refine gate_dst (N := 3) rfl ?_); refine bxe_ 3 #[.int .i64 a1_0, .int .i64 a1_1] 49 ?_; intro gb341 hg w17 hbox hb; have BK341 := Aside0.mk (hbox); have GW341 := gz_ w hg; have GE341 := gz_ w hg; replace HB := Aside0.mk (below_step blw_ hb); clear hb hbox hg; have hcz18_0 := blc_ (.int .i64 a1_0) BK341 0; have hcz18_1 := blc_ (.int .i64 a1_1) BK341 1; have hfz18_0 := blk_frozen BK341.out 0; have hfz18_1 := blk_frozen BK341.out 1) | ((with_reducible refine gate_callee (f := 24) rfl ?_); refine goesL_ (some 9) rfl rfl Tryd.func24 (by kernel_rfl) rfl #[.int .i64 a1_0, .int .i64 0, .int .i64 (wrap64 (a0 - 1))] rfl amp_ ?_; (with_reducible refine (impl_within.calls a1_0 0 (wrap64 (a0 - 1)) false _ A3.out).mono ?_); rintro e w' ⟨rfl, ⟨nd, rfl⟩⟩; refine ⟨_, rfl, ?_⟩))
  go_ret
  exact er_

/-! ### impl_isPolygon: function 63 -/
def impl_isPolygon.f (a0 : Int) : Option (Bool) := (impl_within.f a0 3 12).bind fun t344 => (some t344)
set_option maxHeartbeats 8000000 in
set_option maxRecDepth 100000 in
theorem impl_isPolygon.calls (a0 : Int) (r : Bool) (w : World) (h : impl_isPolygon.f a0 = some r) :
  Calls Tryd.prog 63 #[.int .i64 a0] w fun e w' => e = .returned (.bool r) ∧ Drawn0 w w' := by
 have H : ((impl_within.f a0 3 12).bind fun t344 => (some t344)) = some r := h
 clear h
 replace H := Option.bind_eq_some_iff.mp H
 obtain ⟨t344, A20, H⟩ := H
 replace H : (some t344) = some r := H
 have A2 := Aside0.mk A20
 clear A20
 obtain rfl := Option.some.inj H
 go_enter Tryd.func63, Tryd.ntmps63
 go_wp2_with (first | ((with_reducible refine gate_callee (f := 24) rfl ?_); refine goesL_ (some 4) rfl rfl Tryd.func24 (by kernel_rfl) rfl #[.int .i64 a0, .int .i64 3, .int .i64 12] rfl amp_ ?_; (with_reducible refine (impl_within.calls a0 3 12 t344 _ A2.out).mono ?_); rintro e w' ⟨rfl, ⟨nd, rfl⟩⟩; refine ⟨_, rfl, ?_⟩))
 go_ret
 exact dr_

/-! ### impl_doCross: function 46 -/
def impl_doCross.f (a0_0 : Int) (a0_1 : Int) (a1_0 : Int) (a1_1 : Int) : Option (Bool) := if a0_0 < a1_0 then (if a1_0 < a0_1 then (if a0_1 < a1_1 then (some true) else (if a1_0 < a0_0 then (if a0_0 < a1_1 then (some (decide (a1_1 < a0_1))) else (some false)) else (some false))) else (if a1_0 < a0_0 then (if a0_0 < a1_1 then (some (decide (a1_1 < a0_1))) else (some false)) else (some false))) else (if a1_0 < a0_0 then (if a0_0 < a1_1 then (some (decide (a1_1 < a0_1))) else (some false)) else (some false))
set_option maxHeartbeats 8000000 in
set_option maxRecDepth 100000 in
theorem impl_doCross.calls (a0_0 : Int) (a0_1 : Int) (a1_0 : Int) (a1_1 : Int) (r : Bool) (w : World) (h : impl_doCross.f a0_0 a0_1 a1_0 a1_1 = some r) :
  Calls Tryd.prog 46 #[.agg #[.int .i64 a0_0, .int .i64 a0_1], .agg #[.int .i64 a1_0, .int .i64 a1_1]] w fun e w' => e = .returned (.bool r) ∧ Below w.heap.size w w' := by
 have hu49 := Tryd.underlying49
 have HB := Aside0.mk (Below.refl w.heap.size w)
 have H : (if a0_0 < a1_0 then (if a1_0 < a0_1 then (if a0_1 < a1_1 then (some true) else (if a1_0 < a0_0 then (if a0_0 < a1_1 then (some (decide (a1_1 < a0_1))) else (some false)) else (some false))) else (if a1_0 < a0_0 then (if a0_0 < a1_1 then (some (decide (a1_1 < a0_1))) else (some false)) else (some false))) else (if a1_0 < a0_0 then (if a0_0 < a1_1 then (some (decide (a1_1 < a0_1))) else (some false)) else (some false))) = some r := h
 clear h
 by_cases c3 : a0_0 < a1_0
 ·rw [if_pos c3] at H
  have c3b0 : decide (a0_0 < a1_0) = true := decide_eq_true c3
  clear c3
  by_cases c4 : a1_0 < a0_1
  ·rw [if_pos c4] at H
   have c4b0 : decide (a1_0 < a0_1) = true := decide_eq_true c4
   clear c4
   by_cases c5 : a0_1 < a1_1
   ·rw [if_pos c5] at H
    have c5b0 : decide (a0_1 < a1_1) = true := decide_eq_true c5
    clear c5
    obtain rfl := Option.some.inj H
    go_enter Tryd.func46, Tryd.ntmps46
    go_wp2_with (first | ((with_reducible refine gate_dst (N := 2) rfl ?_); refine bxe_ 2 #[.int .i64 a0_0, .int .i64 a0_1] 49 ?_; intro gb345 hg w6 hbox hb; have BK345 := Aside0.mk (hbox); have GW345 := gz_ w hg; have GE345 := gz_ w hg; replace HB := Aside0.mk (below_step blw_ hb); clear hb hbox hg) | ((with_reducible refine gate_dst (N := 3) rfl ?_); refine bxe_ 3 #[.int .i64 a1_0, .int .i64 a1_1] 49 ?_; intro gb346 hg w7 hbox hb; have BK346 := Aside0.mk (hbox); have GW346 := gz_ w hg; have GE346 := gz_ w hg; have NB345_346 := nb_ BK345 hg; have NB346_345 := nbr_ BK345 hg; replace BK345 := bb_ BK345 hb; replace HB := Aside0.mk (below_step bls_ hb); clear hb hbox hg; have hnb8 := NB345_346.out; have hnc8 := NB346_345.out; have hcz9_0 := blc_ (.int .i64 a0_0) BK345 0; have hcz9_1 := blc_ (.int .i64 a0_1) BK345 1; have hfz9_0 := blk_frozen BK345.out 0; have hfz9_1 := blk_frozen BK345.out 1; have hcz10_0 := blc_ (.int .i64 a1_0) BK346 0; have hcz10_1 := blc_ (.int .i64 a1_1) BK346 1; have hfz10_0 := blk_frozen BK346.out 0; have hfz10_1 := blk_frozen BK346.out 1))
    go_ret
    exact er_
   ·rw [if_neg c5] at H
    have c5b0 : decide (a0_1 < a1_1) = false := decide_eq_false c5
    clear c5
    by_cases c11 : a1_0 < a0_0
    ·rw [if_pos c11] at H
     have c11b0 : decide (a1_0 < a0_0) = true := decide_eq_true c11
     clear c11
     by_cases c12 : a0_0 < a1_1
     ·rw [if_pos c12] at H
      have c12b0 : decide (a0_0 < a1_1) = true := decide_eq_true c12
      clear c12
      obtain rfl := Option.some.inj H
      go_enter Tryd.func46, Tryd.ntmps46
      go_wp2_with (first | ((with_reducible refine gate_dst (N := 2) rfl ?_); refine bxe_ 2 #[.int .i64 a0_0, .int .i64 a0_1] 49 ?_; intro gb345 hg w13 hbox hb; have BK345 := Aside0.mk (hbox); have GW345 := gz_ w hg; have GE345 := gz_ w hg; replace HB := Aside0.mk (below_step blw_ hb); clear hb hbox hg) | ((with_reducible refine gate_dst (N := 3) rfl ?_); refine bxe_ 3 #[.int .i64 a1_0, .int .i64 a1_1] 49 ?_; intro gb346 hg w14 hbox hb; have BK346 := Aside0.mk (hbox); have GW346 := gz_ w hg; have GE346 := gz_ w hg; have NB345_346 := nb_ BK345 hg; have NB346_345 := nbr_ BK345 hg; replace BK345 := bb_ BK345 hb; replace HB := Aside0.mk (below_step bls_ hb); clear hb hbox hg; have hnb15 := NB345_346.out; have hnc15 := NB346_345.out; have hcz16_0 := blc_ (.int .i64 a0_0) BK345 0; have hcz16_1 := blc_ (.int .i64 a0_1) BK345 1; have hfz16_0 := blk_frozen BK345.out 0; have hfz16_1 := blk_frozen BK345.out 1; have hcz17_0 := blc_ (.int .i64 a1_0) BK346 0; have hcz17_1 := blc_ (.int .i64 a1_1) BK346 1; have hfz17_0 := blk_frozen BK346.out 0; have hfz17_1 := blk_frozen BK346.out 1))
      go_ret
      exact er_
     ·rw [if_neg c12] at H
      have c12b0 : decide (a0_0 < a1_1) = false := decide_eq_false c12
      clear c12
      obtain rfl := Option.some.inj H
      go_enter Tryd.func46, Tryd.ntmps46
      go_wp2_with (first | ((with_reducible refine gate_dst (N := 2) rfl ?_); refine bxe_ 2 #[.int .i64 a0_0, .int .i64 a0_1] 49 ?_; intro gb345 hg w18 hbox hb; have BK345 := Aside0.mk (hbox); have GW345 := gz_ w hg; have GE345 := gz_ w hg; replace HB := Aside0.mk (below_step blw_ hb); clear hb hbox hg) | ((with_reducible refine gate_dst (N := 3) rfl ?_); refine bxe_ 3 #[.int .i64 a1_0, .int .i64 a1_1] 49 ?_; intro gb346 hg w19 hbox hb; have BK346 := Aside0.mk (hbox); have GW346 := gz_ w hg; have GE346 := gz_ w hg; have NB345_346 := nb_ BK345 hg; have NB346_345 := nbr_ BK345 hg; replace BK345 := bb_ BK345 hb; replace HB := Aside0.mk (below_step bls_ hb); clear hb hbox hg; have hnb20 := NB345_346.out; have hnc20 := NB346_345.out; have hcz21_0 := blc_ (.int .i64 a0_0) BK345 0; have hcz21_1 := blc_ (.int .i64 a0_1) BK345 1; have hfz21_0 := blk_frozen BK345.out 0; have hfz21_1 := blk_frozen BK345.out 1; have hcz22_0 := blc_ (.int .i64 a1_0) BK346 0; have hcz22_1 := blc_ (.int .i64 a1_1) BK346 1; have hfz22_0 := blk_frozen BK346.out 0; have hfz22_1 := blk_frozen BK346.out 1))
      go_ret
      exact er_
    ·rw [if_neg c11] at H
     have c11b0 : decide (a1_0 < a0_0) = false := decide_eq_false c11
     clear c11
     obtain rfl := Option.some.inj H
     go_enter Tryd.func46, Tryd.ntmps46
     go_wp2_with (first | ((with_reducible refine gate_dst (N := 2) rfl ?_); refine bxe_ 2 #[.int .i64 a0_0, .int .i64 a0_1] 49 ?_; intro gb345 hg w23 hbox hb; have BK345 := Aside0.mk (hbox); have GW345 := gz_ w hg; have GE345 := gz_ w hg; replace HB := Aside0.mk (below_step blw_ hb); clear hb hbox hg) | ((with_reducible refine gate_dst (N := 3) rfl ?_); refine bxe_ 3 #[.int .i64 a1_0, .int .i64 a1_1] 49 ?_; intro gb346 hg w24 hbox hb; have BK346 := Aside0.mk (hbox); have GW346 := gz_ w hg; have GE346 := gz_ w hg; have NB345_346 := nb_ BK345 hg; have NB346_345 := nbr_ BK345 hg; replace BK345 := bb_ BK345 hb; replace HB := Aside0.mk (below_step bls_ hb); clear hb hbox hg; have hnb25 := NB345_346.out; have hnc25 := NB346_345.out; have hcz26_0 := blc_ (.int .i64 a0_0) BK345 0; have hcz26_1 := blc_ (.int .i64 a0_1) BK345 1; have hfz26_0 := blk_frozen BK345.out 0; have hfz26_1 := blk_frozen BK345.out 1; have hcz27_0 := blc_ (.int .i64 a1_0) BK346 0; have hcz27_1 := blc_ (.int .i64 a1_1) BK346 1; have hfz27_0 := blk_frozen BK346.out 0; have hfz27_1 := blk_frozen BK346.out 1))
     go_ret
     exact er_
  ·rw [if_neg c4] at H
   have c4b0 : decide (a1_0 < a0_1) = false := decide_eq_false c4
   clear c4
   by_cases c28 : a1_0 < a0_0
   ·rw [if_pos c28] at H
    have c28b0 : decide (a1_0 < a0_0) = true := decide_eq_true c28
    clear c28
    by_cases c29 : a0_0 < a1_1
    ·rw [if_pos c29] at H
     have c29b0 : decide (a0_0 < a1_1) = true := decide_eq_true c29
     clear c29
     obtain rfl := Option.some.inj H
     go_enter Tryd.func46, Tryd.ntmps46
     go_wp2_with (first | ((with_reducible refine gate_dst (N := 2) rfl ?_); refine bxe_ 2 #[.int .i64 a0_0, .int .i64 a0_1] 49 ?_; intro gb345 hg w30 hbox hb; have BK345 := Aside0.mk (hbox); have GW345 := gz_ w hg; have GE345 := gz_ w hg; replace HB := Aside0.mk (below_step blw_ hb); clear hb hbox hg) | ((with_reducible refine gate_dst (N := 3) rfl ?_); refine bxe_ 3 #[.int .i64 a1_0, .int .i64 a1_1] 49 ?_; intro gb346 hg w31 hbox hb; have BK346 := Aside0.mk (hbox); have GW346 := gz_ w hg; have GE346 := gz_ w hg; have NB345_346 := nb_ BK345 hg; have NB346_345 := nbr_ BK345 hg; replace BK345 := bb_ BK345 hb; replace HB := Aside0.mk (below_step bls_ hb); clear hb hbox hg; have hnb32 := NB345_346.out; have hnc32 := NB346_345.out; have hcz33_0 := blc_ (.int .i64 a0_0) BK345 0; have hcz33_1 := blc_ (.int .i64 a0_1) BK345 1; have hfz33_0 := blk_frozen BK345.out 0; have hfz33_1 := blk_frozen BK345.out 1; have hcz34_0 := blc_ (.int .i64 a1_0) BK346 0; have hcz34_1 := blc_ (.int .i64 a1_1) BK346 1; have hfz34_0 := blk_frozen BK346.out 0; have hfz34_1 := blk_frozen BK346.out 1))
     go_ret
     exact er_
    ·rw [if_neg c29] at H
     have c29b0 : decide (a0_0 < a1_1) = false := decide_eq_false c29
     clear c29
     obtain rfl := Option.some.inj H
     go_enter Tryd.func46, Tryd.ntmps46
     go_wp2_with (first | ((with_reducible refine gate_dst (N := 2) rfl ?_); refine bxe_ 2 #[.int .i64 a0_0, .int .i64 a0_1] 49 ?_; intro gb345 hg w35 hbox hb; have BK345 := Aside0.mk (hbox); have GW345 := gz_ w hg; have GE345 := gz_ w hg; replace HB := Aside0.mk (below_step blw_ hb); clear hb hbox hg) | ((with_reducible refine gate_dst (N := 3) rfl ?_); refine bxe_ 3 #[.int .i64 a1_0, .int .i64 a1_1] 49 ?_; intro gb346 hg w36 hbox hb; have BK346 := Aside0.mk (hbox); have GW346 := gz_ w hg; have GE346 := gz_ w hg; have NB345_346 := nb_ BK345 hg; have NB346_345 := nbr_ BK345 hg; replace BK345 := bb_ BK345 hb; replace HB := Aside0.mk (below_step bls_ hb); clear hb hbox hg; have hnb37 := NB345_346.out; have hnc37 := NB346_345.out; have hcz38_0 := blc_ (.int .i64 a0_0) BK345 0; have hcz38_1 := blc_ (.int .i64 a0_1) BK345 1; have hfz38_0 := blk_frozen BK345.out 0; have hfz38_1 := blk_frozen BK345.out 1; have hcz39_0 := blc_ (.int .i64 a1_0) BK346 0; have hcz39_1 := blc_ (.int .i64 a1_1) BK346 1; have hfz39_0 := blk_frozen BK346.out 0; have hfz39_1 := blk_frozen BK346.out 1))
     go_ret
     exact er_
   ·rw [if_neg c28] at H
    have c28b0 : decide (a1_0 < a0_0) = false := decide_eq_false c28
    clear c28
    obtain rfl := Option.some.inj H
    go_enter Tryd.func46, Tryd.ntmps46
    go_wp2_with (first | ((with_reducible refine gate_dst (N := 2) rfl ?_); refine bxe_ 2 #[.int .i64 a0_0, .int .i64 a0_1] 49 ?_; intro gb345 hg w40 hbox hb; have BK345 := Aside0.mk (hbox); have GW345 := gz_ w hg; have GE345 := gz_ w hg; replace HB := Aside0.mk (below_step blw_ hb); clear hb hbox hg) | ((with_reducible refine gate_dst (N := 3) rfl ?_); refine bxe_ 3 #[.int .i64 a1_0, .int .i64 a1_1] 49 ?_; intro gb346 hg w41 hbox hb; have BK346 := Aside0.mk (hbox); have GW346 := gz_ w hg; have GE346 := gz_ w hg; have NB345_346 := nb_ BK345 hg; have NB346_345 := nbr_ BK345 hg; replace BK345 := bb_ BK345 hb; replace HB := Aside0.mk (below_step bls_ hb); clear hb hbox hg; have hnb42 := NB345_346.out; have hnc42 := NB346_345.out; have hcz43_0 := blc_ (.int .i64 a0_0) BK345 0; have hcz43_1 := blc_ (.int .i64 a0_1) BK345 1; have hfz43_0 := blk_frozen BK345.out 0; have hfz43_1 := blk_frozen BK345.out 1; have hcz44_0 := blc_ (.int .i64 a1_0) BK346 0; have hcz44_1 := blc_ (.int .i64 a1_1) BK346 1; have hfz44_0 := blk_frozen BK346.out 0; have hfz44_1 := blk_frozen BK346.out 1))
    go_ret
    exact er_
 ·rw [if_neg c3] at H
  have c3b0 : decide (a0_0 < a1_0) = false := decide_eq_false c3
  clear c3
  by_cases c45 : a1_0 < a0_0
  ·rw [if_pos c45] at H
   have c45b0 : decide (a1_0 < a0_0) = true := decide_eq_true c45
   clear c45
   by_cases c46 : a0_0 < a1_1
   ·rw [if_pos c46] at H
    have c46b0 : decide (a0_0 < a1_1) = true := decide_eq_true c46
    clear c46
    obtain rfl := Option.some.inj H
    go_enter Tryd.func46, Tryd.ntmps46
    go_wp2_with (first | ((with_reducible refine gate_dst (N := 2) rfl ?_); refine bxe_ 2 #[.int .i64 a0_0, .int .i64 a0_1] 49 ?_; intro gb345 hg w47 hbox hb; have BK345 := Aside0.mk (hbox); have GW345 := gz_ w hg; have GE345 := gz_ w hg; replace HB := Aside0.mk (below_step blw_ hb); clear hb hbox hg) | ((with_reducible refine gate_dst (N := 3) rfl ?_); refine bxe_ 3 #[.int .i64 a1_0, .int .i64 a1_1] 49 ?_; intro gb346 hg w48 hbox hb; have BK346 := Aside0.mk (hbox); have GW346 := gz_ w hg; have GE346 := gz_ w hg; have NB345_346 := nb_ BK345 hg; have NB346_345 := nbr_ BK345 hg; replace BK345 := bb_ BK345 hb; replace HB := Aside0.mk (below_step bls_ hb); clear hb hbox hg; have hnb49 := NB345_346.out; have hnc49 := NB346_345.out; have hcz50_0 := blc_ (.int .i64 a0_0) BK345 0; have hcz50_1 := blc_ (.int .i64 a0_1) BK345 1; have hfz50_0 := blk_frozen BK345.out 0; have hfz50_1 := blk_frozen BK345.out 1; have hcz51_0 := blc_ (.int .i64 a1_0) BK346 0; have hcz51_1 := blc_ (.int .i64 a1_1) BK346 1; have hfz51_0 := blk_frozen BK346.out 0; have hfz51_1 := blk_frozen BK346.out 1))
    go_ret
    exact er_
   ·rw [if_neg c46] at H
    have c46b0 : decide (a0_0 < a1_1) = false := decide_eq_false c46
    clear c46
    obtain rfl := Option.some.inj H
    go_enter Tryd.func46, Tryd.ntmps46
    go_wp2_with (first | ((with_reducible refine gate_dst (N := 2) rfl ?_); refine bxe_ 2 #[.int .i64 a0_0, .int .i64 a0_1] 49 ?_; intro gb345 hg w52 hbox hb; have BK345 := Aside0.mk (hbox); have GW345 := gz_ w hg; have GE345 := gz_ w hg; replace HB := Aside0.mk (below_step blw_ hb); clear hb hbox hg) | ((with_reducible refine gate_dst (N := 3) rfl ?_); refine bxe_ 3 #[.int .i64 a1_0, .int .i64 a1_1] 49 ?_; intro gb346 hg w53 hbox hb; have BK346 := Aside0.mk (hbox); have GW346 := gz_ w hg; have GE346 := gz_ w hg; have NB345_346 := nb_ BK345 hg; have NB346_345 := nbr_ BK345 hg; replace BK345 := bb_ BK345 hb; replace HB := Aside0.mk (below_step bls_ hb); clear hb hbox hg; have hnb54 := NB345_346.out; have hnc54 := NB346_345.out; have hcz55_0 := blc_ (.int .i64 a0_0) BK345 0; have hcz55_1 := blc_ (.int .i64 a0_1) BK345 1; have hfz55_0 := blk_frozen BK345.out 0; have hfz55_1 := blk_frozen BK345.out 1; have hcz56_0 := blc_ (.int .i64 a1_0) BK346 0; have hcz56_1 := blc_ (.int .i64 a1_1) BK346 1; have hfz56_0 := blk_frozen BK346.out 0; have hfz56_1 := blk_frozen BK346.out 1))
    go_ret
    exact er_
  ·rw [if_neg c45] at H
   have c45b0 : decide (a1_0 < a0_0) = false := decide_eq_false c45
   clear c45
   obtain rfl := Option.some.inj H
   go_enter Tryd.func46, Tryd.ntmps46
   go_wp2_with (first | ((with_reducible refine gate_dst (N := 2) rfl ?_); refine bxe_ 2 #[.int .i64 a0_0, .int .i64 a0_1] 49 ?_; intro gb345 hg w57 hbox hb; have BK345 := Aside0.mk (hbox); have GW345 := gz_ w hg; have GE345 := gz_ w hg; replace HB := Aside0.mk (below_step blw_ hb); clear hb hbox hg) | ((with_reducible refine gate_dst (N := 3) rfl ?_); refine bxe_ 3 #[.int .i64 a1_0, .int .i64 a1_1] 49 ?_; intro gb346 hg w58 hbox hb; have BK346 := Aside0.mk (hbox); have GW346 := gz_ w hg; have GE346 := gz_ w hg; have NB345_346 := nb_ BK345 hg; have NB346_345 := nbr_ BK345 hg; replace BK345 := bb_ BK345 hb; replace HB := Aside0.mk (below_step bls_ hb); clear hb hbox hg; have hnb59 := NB345_346.out; have hnc59 := NB346_345.out; have hcz60_0 := blc_ (.int .i64 a0_0) BK345 0; have hcz60_1 := blc_ (.int .i64 a0_1) BK345 1; have hfz60_0 := blk_frozen BK345.out 0; have hfz60_1 := blk_frozen BK345.out 1; have hcz61_0 := blc_ (.int .i64 a1_0) BK346 0; have hcz61_1 := blc_ (.int .i64 a1_1) BK346 1; have hfz61_0 := blk_frozen BK346.out 0; have hfz61_1 := blk_frozen BK346.out 1))
   go_ret
   exact er_

-- TOLD FOR impl_IsTriangulation_1_s4: impl.IsTriangulation$1 | 
/-! ### impl_IsTriangulation_1_s4: function 100004 -/
def impl_IsTriangulation_1_s4.f (a0_0 : Int) (a0_1 : Int) (a1_0_0 : Int) (a1_0_1 : Int) : Option (Bool) := (impl_doCross.f a1_0_0 a1_0_1 a0_0 a0_1).bind fun t348 => (some t348)
set_option maxHeartbeats 8000000 in
set_option maxRecDepth 100000 in
theorem impl_IsTriangulation_1_s4.calls (a0_0 : Int) (a0_1 : Int) (gc1_0 : Nat) (a1_0_0 : Int) (a1_0_1 : Int) (r : Bool) (w : World) (hb1_0 : w.heap[gc1_0]? = some (.cells #[.int .i64 a1_0_0, .int .i64 a1_0_1] 49 (0, 0))) (h : impl_IsTriangulation_1_s4.f a0_0 a0_1 a1_0_0 a1_0_1 = some r) :
  Calls Tryd.prog 64 #[.agg #[.int .i64 a0_0, .int .i64 a0_1], .pointer (some ⟨gc1_0, 0, none⟩)] w fun e w' => e = .returned (.bool r) ∧ Below w.heap.size w w' := by
 have hu49 := Tryd.underlying49
 have BK20 := Aside0.mk hb1_0
 clear hb1_0
 have HB := Aside0.mk (Below.refl w.heap.size w)
 have H : ((impl_doCross.f a1_0_0 a1_0_1 a0_0 a0_1).bind fun t348 => (some t348)) = some r := h
 clear h
 replace H := Option.bind_eq_some_iff.mp H
 obtain ⟨t348, A30, H⟩ := H
 replace H : (some t348) = some r := H
 have A3 := Aside0.mk A30
 clear A30
 obtain rfl := Option.some.inj H
 go_enter Tryd.func64, Tryd.ntmps64
 go_wp2_with (first | ((with_reducible refine gate_dst (N := 2) rfl ?_); refine bxe_ 2 #[.int .i64 a0_0, .int .i64 a0_1] 49 ?_; intro gb347 hg w4 hbox hb; have BK347 := Aside0.mk (hbox); have GW347 := gz_ w hg; have GE347 := gz_ w hg; have NB20_347 := nb_ BK20 hg; have NB347_20 := nbr_ BK20 hg; replace BK20 := bb_ BK20 hb; replace HB := Aside0.mk (below_step bls_ hb); clear hb hbox hg; have hnb5 := NB20_347.out; have hnc5 := NB347_20.out; have hcz6_0 := blc_ (.int .i64 a1_0_0) BK20 0; have hcz6_1 := blc_ (.int .i64 a1_0_1) BK20 1; have hfz6_0 := blk_frozen BK20.out 0; have hfz6_1 := blk_frozen BK20.out 1; have hcz7_0 := blc_ (.int .i64 a0_0) BK347 0; have hcz7_1 := blc_ (.int .i64 a0_1) BK347 1; have hfz7_0 := blk_frozen BK347.out 0; have hfz7_1 := blk_frozen BK347.out 1) | ((with_reducible refine gate_callee (f := 46) rfl ?_); refine goesL_ (some 6) rfl rfl Tryd.func46 (by kernel_rfl) rfl #[.agg #[.int .i64 a1_0_0, .int .i64 a1_0_1], .agg #[.int .i64 a0_0, .int .i64 a0_1]] rfl amp_ ?_; (with_reducible refine (impl_doCross.calls a1_0_0 a1_0_1 a0_0 a0_1 t348 _ A3.out).mono ?_); rintro e w8 ⟨rfl, hb⟩; refine ⟨_, rfl, ?_⟩; replace BK20 := bb_ BK20 hb; replace BK347 := bb_ BK347 hb; replace HB := Aside0.mk (below_step bls_ hb); (try clear hb); (try clear hb2); (try clear hk); (try clear hi)))
 go_ret
 exact er_

-- TOLD FOR impl_Diagonal_61_s3: slices.IndexFunc[[]impl.Diagonal,impl.Diagonal] | impl.IsTriangulation$1
/-! ### impl_Diagonal_61_s3: function 100003 -/
def impl_Diagonal_61_s3.l0 : Nat → List (S49) → Int → Int → Int → Int → Option (Int)
 | 0, _, _, _, _, _ => none
 | k + 1, x0, x7, x8, x21000, x21001 => if x8 < x7 then (if 0 ≤ x8 then (if x8 < (x0.length : Int) then ((impl_IsTriangulation_1_s4.f ((rd_T49 x0 x8).f0) ((rd_T49 x0 x8).f1) x21000 x21001).bind fun t350 => (if t350 = true then (some x8) else (impl_Diagonal_61_s3.l0 k x0 x7 (wrap64 (x8 + 1)) x21000 x21001))) else (none)) else (none)) else (some (-1))
def impl_Diagonal_61_s3.f (k : Nat) (l0 : List (S49)) (a1_0_0 : Int) (a1_0_1 : Int) : Option (Int) := impl_Diagonal_61_s3.l0 k l0 (l0.length : Int) 0 a1_0_0 a1_0_1
theorem impl_Diagonal_61_s3.mono_l : ∀ k, (∀ y0 y1 y2 y3 y4, LeO (impl_Diagonal_61_s3.l0 k y0 y1 y2 y3 y4) (impl_Diagonal_61_s3.l0 (k + 1) y0 y1 y2 y3 y4))
 | 0 => fun _ _ _ _ _ r h => by simp [impl_Diagonal_61_s3.l0] at h
 | k + 1 => by
  have ih0 := impl_Diagonal_61_s3.mono_l k
  ·intro y0 y1 y2 y3 y4
   unfold impl_Diagonal_61_s3.l0
   repeat' first
   | (with_reducible exact ih0 _ _ _ _ _)
   | (with_reducible exact LeO.refl _)
   | (with_reducible exact LeO.none _)
   | (with_reducible refine LeO.ite ?_ ?_)
   | (with_reducible refine LeO.bind ?_ (fun _ => ?_))
   | exact ih0 _ _ _ _ _
   | exact LeO.none _
   | refine LeO.ite ?_ ?_
   | refine LeO.bind ?_ (fun _ => ?_)
theorem impl_Diagonal_61_s3.mono : ∀ a0 a1 a2 k, LeO (impl_Diagonal_61_s3.f k a0 a1 a2) (impl_Diagonal_61_s3.f (k + 1) a0 a1 a2) := by
 intro a0 a1 a2 k
 have ih0 := impl_Diagonal_61_s3.mono_l k
 unfold impl_Diagonal_61_s3.f
 repeat' first
   | (with_reducible exact ih0 _ _ _ _ _)
   | (with_reducible exact LeO.refl _)
   | (with_reducible exact LeO.none _)
   | (with_reducible refine LeO.ite ?_ ?_)
   | (with_reducible refine LeO.bind ?_ (fun _ => ?_))
   | exact ih0 _ _ _ _ _
   | exact LeO.none _
   | refine LeO.ite ?_ ?_
   | refine LeO.bind ?_ (fun _ => ?_)
set_option maxHeartbeats 8000000 in
set_option maxRecDepth 100000 in
theorem impl_Diagonal_61_s3.calls (k : Nat) (A0 : Option Addr) (c0 : Nat) (l0 : List (S49)) (gc1_0 : Nat) (a1_0_0 : Int) (a1_0_1 : Int) (r : Int) (w : World) (hr0 : Kd.C k49 w A0 l0.length l0) (hc0 : l0.length ≤ c0) (hb1_0 : w.heap[gc1_0]? = some (.cells #[.int .i64 a1_0_0, .int .i64 a1_0_1] 49 (0, 0))) (h : impl_Diagonal_61_s3.f k l0 a1_0_0 a1_0_1 = some r) :
  Calls Tryd.prog 61 #[.slice A0 l0.length c0, .func (.func 64) #[] #[.pointer (some ⟨gc1_0, 0, none⟩)]] w fun e w' => e = .returned (.int .i64 r) ∧ Below w.heap.size w w' := by
 have hu49 := Tryd.underlying49
 have HR0 := Aside0.mk hr0
 have HC0 := Aside0.mk hc0
 clear hr0 hc0
 have BK20 := Aside0.mk hb1_0
 clear hb1_0
 have HB := Aside0.mk (Below.refl w.heap.size w)
 have H : (impl_Diagonal_61_s3.l0 k l0 (l0.length : Int) 0 a1_0_0 a1_0_1) = some r := h
 clear h
 have H' := Aside0.mk H
 clear H
 go_enter Tryd.func61, Tryd.ntmps61
 go_wp2
 go_loopg [8] k (fun kq v8 w' => ∃ (x8_1 : Int), v8 = .int .i64 x8_1 ∧ Aside0 (impl_Diagonal_61_s3.l0 kq l0 (l0.length : Int) x8_1 a1_0_0 a1_0_1 = some r) ∧ Aside0 (kq ≤ k) ∧ Aside0 (w'.heap[gc1_0]? = some (.cells #[.int .i64 a1_0_0, .int .i64 a1_0_1] 49 (0, 0))) ∧ Aside0 (Below w.heap.size w w'))
 case atStart => exact ⟨(0), rsd_, H', ⟨Nat.le_refl _⟩, ⟨bk_ BK20.out⟩, ⟨bls_⟩⟩
 case round =>
  clear H'
  try clear c1
  try clear p2
  obtain ⟨x8_1, rfl, HA, HK1, BK20, HB⟩ := hrel
  cases gk with
  | zero => exact absurd HA.out (by simp [impl_Diagonal_61_s3.l0])
  | succ k1 =>
   have H := HA.out
   clear HA
   simp only [impl_Diagonal_61_s3.l0] at H
   by_cases c3 : x8_1 < (l0.length : Int)
   ·rw [if_pos c3] at H
    have c3b0 : decide (x8_1 < (l0.length : Int)) = true := decide_eq_true c3
    clear c3
    by_cases c4 : 0 ≤ x8_1
    case neg=>rw [if_neg c4] at H;exact absurd H (by simp)
    rw [if_pos c4] at H
    have c4b0 : decide (0 ≤ x8_1) = true := decide_eq_true c4
    clear c4
    by_cases c5 : x8_1 < (l0.length : Int)
    case neg=>rw [if_neg c5] at H;exact absurd H (by simp)
    rw [if_pos c5] at H
    have c5b0 : decide (x8_1 < (l0.length : Int)) = true := decide_eq_true c5
    clear c5
    replace H := Option.bind_eq_some_iff.mp H
    obtain ⟨t350, A60, H⟩ := H
    replace H : (if t350 = true then (some x8_1) else (impl_Diagonal_61_s3.l0 k1 l0 (l0.length : Int) (wrap64 (x8_1 + 1)) a1_0_0 a1_0_1)) = some r := H
    have A6 := Aside0.mk A60
    clear A60
    by_cases c7 : t350 = true
    ·subst c7
     replace H : (some x8_1) = some r := by rw [if_pos rfl] at H; exact H
     obtain rfl := Option.some.inj H
     have p349 : 0 ≤ (x8_1 : Int) := odt_
     have q349 : x8_1 < (l0.length : Int) := odt_
     obtain ⟨ad349, e349, hx349_0, hx349_1⟩ := at_T49 HR0.out x8_1 p349 q349
     cases e349
     (first | replace hx349_0 := (HB.out.cell (World.block_lt_of_cell? w _ hx349_0)).trans hx349_0 | skip)
     (first | replace hx349_1 := (HB.out.cell (World.block_lt_of_cell? w _ hx349_1)).trans hx349_1 | skip)
     replace p349 := eq_true p349
     replace q349 := eq_true q349
     go_wp2_with (first | (go_at_call 64; (with_reducible refine (impl_IsTriangulation_1_s4.calls ((rd_T49 l0 x8_1).f0) ((rd_T49 l0 x8_1).f1) gc1_0 a1_0_0 a1_0_1 true _ ?side1 A6.out).mono ?_); (case side1 => (with_reducible repeat (first | refine blk_drewN ?_ _ | refine blk_drew ?_ | refine blk_alloc ?_ _)); exact BK20.out); rintro e w8 ⟨rfl, hb⟩; (try replace hb := Drawn0.below hb); replace BK20 := bb_ BK20 hb; replace HB := Aside0.mk (below_step bls_ hb); (try clear hb); (try clear hb2); (try clear hk); (try clear hi)))
     go_ret
     exact er_
    ·replace c7 := Bool.eq_false_iff.mpr c7
     subst c7
     replace H : (impl_Diagonal_61_s3.l0 k1 l0 (l0.length : Int) (wrap64 (x8_1 + 1)) a1_0_0 a1_0_1) = some r := by rw [if_neg (show ¬ (false = true) by decide)] at H; exact H
     have H' := Aside0.mk H
     clear H
     have p349 : 0 ≤ (x8_1 : Int) := odt_
     have q349 : x8_1 < (l0.length : Int) := odt_
     obtain ⟨ad349, e349, hx349_0, hx349_1⟩ := at_T49 HR0.out x8_1 p349 q349
     cases e349
     (first | replace hx349_0 := (HB.out.cell (World.block_lt_of_cell? w _ hx349_0)).trans hx349_0 | skip)
     (first | replace hx349_1 := (HB.out.cell (World.block_lt_of_cell? w _ hx349_1)).trans hx349_1 | skip)
     replace p349 := eq_true p349
     replace q349 := eq_true q349
     go_wp2_with (first | (go_at_call 64; (with_reducible refine (impl_IsTriangulation_1_s4.calls ((rd_T49 l0 x8_1).f0) ((rd_T49 l0 x8_1).f1) gc1_0 a1_0_0 a1_0_1 false _ ?side1 A6.out).mono ?_); (case side1 => (with_reducible repeat (first | refine blk_drewN ?_ _ | refine blk_drew ?_ | refine blk_alloc ?_ _)); exact BK20.out); rintro e w9 ⟨rfl, hb⟩; (try replace hb := Drawn0.below hb); replace BK20 := bb_ BK20 hb; replace HB := Aside0.mk (below_step bls_ hb); (try clear hb); (try clear hb2); (try clear hk); (try clear hi)))
     go_roundg k1
     case measure => have := HK1.out; omega
     case rel => exact ⟨(wrap64 (x8_1 + 1)), rsd_, H', ⟨by have := HK1.out; omega⟩, ⟨bk_ BK20.out⟩, ⟨bls_⟩⟩
   ·rw [if_neg c3] at H
    have c3b0 : decide (x8_1 < (l0.length : Int)) = false := decide_eq_false c3
    clear c3
    obtain rfl := Option.some.inj H
    go_wp2
    go_ret
    exact er_

-- TOLD FOR impl_Diagonal_44_s2: slices.ContainsFunc[[]impl.Diagonal,impl.Diagonal] | impl.IsTriangulation$1
/-! ### impl_Diagonal_44_s2: function 100002 -/
def impl_Diagonal_44_s2.f (k : Nat) (l0 : List (S49)) (a1_0_0 : Int) (a1_0_1 : Int) : Option (Bool) := (impl_Diagonal_61_s3.f k l0 a1_0_0 a1_0_1).bind fun t351 => (some (decide (t351 ≥ 0)))
theorem impl_Diagonal_44_s2.mono : ∀ a0 a1 a2 k, LeO (impl_Diagonal_44_s2.f k a0 a1 a2) (impl_Diagonal_44_s2.f (k + 1) a0 a1 a2) := by
 intro a0 a1 a2 k
 unfold impl_Diagonal_44_s2.f
 repeat' first
   | (with_reducible exact impl_Diagonal_61_s3.mono _ _ _ _)
   | (with_reducible exact LeO.refl _)
   | (with_reducible exact LeO.none _)
   | (with_reducible refine LeO.ite ?_ ?_)
   | (with_reducible refine LeO.bind ?_ (fun _ => ?_))
   | exact impl_Diagonal_61_s3.mono _ _ _ _
   | exact LeO.none _
   | refine LeO.ite ?_ ?_
   | refine LeO.bind ?_ (fun _ => ?_)
set_option maxHeartbeats 8000000 in
set_option maxRecDepth 100000 in
theorem impl_Diagonal_44_s2.calls (k : Nat) (A0 : Option Addr) (c0 : Nat) (l0 : List (S49)) (gc1_0 : Nat) (a1_0_0 : Int) (a1_0_1 : Int) (r : Bool) (w : World) (hr0 : Kd.C k49 w A0 l0.length l0) (hc0 : l0.length ≤ c0) (hb1_0 : w.heap[gc1_0]? = some (.cells #[.int .i64 a1_0_0, .int .i64 a1_0_1] 49 (0, 0))) (h : impl_Diagonal_44_s2.f k l0 a1_0_0 a1_0_1 = some r) :
  Calls Tryd.prog 44 #[.slice A0 l0.length c0, .func (.func 64) #[] #[.pointer (some ⟨gc1_0, 0, none⟩)]] w fun e w' => e = .returned (.bool r) ∧ Below w.heap.size w w' := by
 have HR0 := Aside0.mk hr0
 have HC0 := Aside0.mk hc0
 clear hr0 hc0
 have BK20 := Aside0.mk hb1_0
 clear hb1_0
 have HB := Aside0.mk (Below.refl w.heap.size w)
 have H : ((impl_Diagonal_61_s3.f k l0 a1_0_0 a1_0_1).bind fun t351 => (some (decide (t351 ≥ 0)))) = some r := h
 clear h
 replace H := Option.bind_eq_some_iff.mp H
 obtain ⟨t351, A30, H⟩ := H
 replace H : (some (decide (t351 ≥ 0))) = some r := H
 have A3 := Aside0.mk A30
 clear A30
 obtain rfl := Option.some.inj H
 go_enter Tryd.func44, Tryd.ntmps44
 go_wp2_with (first | ((with_reducible refine gate_callee (f := 61) rfl ?_); refine goesL_ (some 7) rfl rfl Tryd.func61 (by kernel_rfl) rfl #[.slice A0 l0.length c0, .func (.func 64) #[] #[.pointer (some ⟨gc1_0, 0, none⟩)]] rfl amp_ ?_; (with_reducible refine (impl_Diagonal_61_s3.calls k _ _ l0 gc1_0 a1_0_0 a1_0_1 t351 _ ?side1 ?side2 ?side3 A3.out).mono ?_); (case side1 => exact cd_ HR0.out); (case side2 => exact HC0.out); (case side3 => (with_reducible repeat (first | refine blk_drewN ?_ _ | refine blk_drew ?_ | refine blk_alloc ?_ _)); exact BK20.out); rintro e w4 ⟨rfl, hb⟩; refine ⟨_, rfl, ?_⟩; replace BK20 := bb_ BK20 hb; replace HB := Aside0.mk (below_step bls_ hb); (try clear hb); (try clear hb2); (try clear hk); (try clear hi)))
 go_ret
 exact er_

end Go.Proofs.YtgblginphicacaaDoor.PFnExactFirstFlips
