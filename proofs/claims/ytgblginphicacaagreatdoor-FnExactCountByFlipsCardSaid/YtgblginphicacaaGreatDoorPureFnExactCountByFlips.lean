/- The program's CountByFlips and the reference's return the same for every number of corners and all lists of pairs of numbers that the statement lets in: how many triangulations there are of each distance; the distances are worked out in step. No condition. -/
import Derived.Test.YtgblginphicacaaGreatDoorPFnExactCountByFlipsx0
import Derived.Test.YtgblginphicacaaGreatDoorPFnExactCountByFlipsx1
import Derived.Test.YtgblginphicacaaGreatDoorPFnExactCountByFlipsx10
import Derived.Test.YtgblginphicacaaGreatDoorPFnExactCountByFlipsx11
import Derived.Test.YtgblginphicacaaGreatDoorPFnExactCountByFlipsx12
import Derived.Test.YtgblginphicacaaGreatDoorPFnExactCountByFlipsx13
import Derived.Test.YtgblginphicacaaGreatDoorPFnExactCountByFlipsx14
import Derived.Test.YtgblginphicacaaGreatDoorPFnExactCountByFlipsx15
import Derived.Test.YtgblginphicacaaGreatDoorPFnExactCountByFlipsx16
import Derived.Test.YtgblginphicacaaGreatDoorPFnExactCountByFlipsx17
import Derived.Test.YtgblginphicacaaGreatDoorPFnExactCountByFlipsx18
import Derived.Test.YtgblginphicacaaGreatDoorPFnExactCountByFlipsx19
import Derived.Test.YtgblginphicacaaGreatDoorPFnExactCountByFlipsx2
import Derived.Test.YtgblginphicacaaGreatDoorPFnExactCountByFlipsx20
import Derived.Test.YtgblginphicacaaGreatDoorPFnExactCountByFlipsx21
import Derived.Test.YtgblginphicacaaGreatDoorPFnExactCountByFlipsx3
import Derived.Test.YtgblginphicacaaGreatDoorPFnExactCountByFlipsx4
import Derived.Test.YtgblginphicacaaGreatDoorPFnExactCountByFlipsx5
import Derived.Test.YtgblginphicacaaGreatDoorPFnExactCountByFlipsx6
import Derived.Test.YtgblginphicacaaGreatDoorPFnExactCountByFlipsx7
import Derived.Test.YtgblginphicacaaGreatDoorPFnExactCountByFlipsx8
import Derived.Test.YtgblginphicacaaGreatDoorPFnExactCountByFlipsx9
import Derived.Test.YtgblginphicacaaGreatDoorTFnExactCountByFlipsO
import Derived.Test.YtgblginphicacaaGreatDoorTFnExactCountByFlipsA
import Derived.Test.YtgblginphicacaaGreatDoorTFnExactCountByFlipsB
import Derived.Test.YtgblginphicacaaGreatDoorTFnExactCountByFlipsC
import Derived.Test.YtgblginphicacaaGreatDoorTFnExactCountByFlipsD
import Derived.Test.YtgblginphicacaaGreatDoorTFnExactCountByFlipsF
import Derived.Test.YtgblginphicacaaGreatDoorTFnExactCountByFlipsE
import Derived.Test.YtgblginphicacaaGreatDoorTFnExactCountByFlipsG
set_option linter.unusedSimpArgs false
set_option linter.unnecessarySimpa false
set_option linter.unusedVariables false
namespace Go.Proofs.YtgblginphicacaaGreatDoor.PureFnExactCountByFlips
open Go.RowKit Go.Proofs.YtgblginphicacaaGreatDoor.PFnExactCountByFlips Go.Proofs.YtgblginphicacaaGreatDoorW.PrintWords Go.Proofs.YtgblginphicacaaGreatDoorW.PrintLast

set_option maxRecDepth 1000000 in
theorem len_tab3 : (triT 3).length = 1 ∧ (adjT 3).length = 1 ∧ (farT 3).length = 1 := by refine ⟨?_, ?_, ?_⟩ <;> kernel_rfl
set_option maxRecDepth 1000000 in
theorem len_tab4 : (triT 4).length = 2 ∧ (adjT 4).length = 2 ∧ (farT 4).length = 2 := by refine ⟨?_, ?_, ?_⟩ <;> kernel_rfl
set_option maxRecDepth 1000000 in
theorem len_tab5 : (triT 5).length = 5 ∧ (adjT 5).length = 5 ∧ (farT 5).length = 5 := by refine ⟨?_, ?_, ?_⟩ <;> kernel_rfl
set_option maxRecDepth 1000000 in
theorem len_tab6 : (triT 6).length = 14 ∧ (adjT 6).length = 14 ∧ (farT 6).length = 14 := by refine ⟨?_, ?_, ?_⟩ <;> kernel_rfl
set_option maxRecDepth 1000000 in
theorem len_tab7 : (triT 7).length = 42 ∧ (adjT 7).length = 42 ∧ (farT 7).length = 42 := by refine ⟨?_, ?_, ?_⟩ <;> kernel_rfl
set_option maxRecDepth 1000000 in
theorem len_tab8 : (triT 8).length = 132 ∧ (adjT 8).length = 132 ∧ (farT 8).length = 132 := by refine ⟨?_, ?_, ?_⟩ <;> kernel_rfl
theorem chk_at {n a b : Nat} (h : chkAdj n a b = true) (i : Nat) (h1 : a ≤ i) (h2 : i < a + b) : chkRow n ((triT n).getD i []) ((adjT n).getD i []) = true := List.all_eq_true.1 h i (List.mem_range'_1.2 ⟨h1, h2⟩)
theorem fch_at {n a b : Nat} (h : chkFar n a b = true) (i : Nat) (h1 : a ≤ i) (h2 : i < a + b) : farOf n i = farRow n i := of_decide_eq_true (List.all_eq_true.1 h i (List.mem_range'_1.2 ⟨h1, h2⟩))
theorem six {n : Nat} (hn : 3 ≤ n ∧ n ≤ 8) : n = 3 ∨ n = 4 ∨ n = 5 ∨ n = 6 ∨ n = 7 ∨ n = 8 := by omega
theorem tri_tab {n : Nat} (hn : 3 ≤ n ∧ n ≤ 8) : trisOf (n : Int) = triT n := by
 rcases six hn with rfl | rfl | rfl | rfl | rfl | rfl
 ·exact tri_tab3
 ·exact tri_tab4
 ·exact tri_tab5
 ·exact tri_tab6
 ·exact tri_tab7
 ·exact tri_tab8
theorem len_tab {n : Nat} (hn : 3 ≤ n ∧ n ≤ 8) : (triT n).length ≤ 132 ∧ (adjT n).length = (triT n).length ∧ 1 ≤ (triT n).length := by
 rcases six hn with rfl | rfl | rfl | rfl | rfl | rfl
 ·have := len_tab3; omega
 ·have := len_tab4; omega
 ·have := len_tab5; omega
 ·have := len_tab6; omega
 ·have := len_tab7; omega
 ·have := len_tab8; omega
theorem adj_ok {n : Nat} (hn : 3 ≤ n ∧ n ≤ 8) (i : Nat) (hi : i < (triT n).length) : chkRow n ((triT n).getD i []) ((adjT n).getD i []) = true := by
 rcases six hn with rfl | rfl | rfl | rfl | rfl | rfl
 ·rw [len_tab3.1] at hi; exact chk_at adj_tab3 i (by omega) (by omega)
 ·rw [len_tab4.1] at hi; exact chk_at adj_tab4 i (by omega) (by omega)
 ·rw [len_tab5.1] at hi; exact chk_at adj_tab5 i (by omega) (by omega)
 ·rw [len_tab6.1] at hi; exact chk_at adj_tab6 i (by omega) (by omega)
 ·rw [len_tab7.1] at hi; exact chk_at adj_tab7 i (by omega) (by omega)
 ·rw [len_tab8.1] at hi
  have : i < 11 ∨ (11 ≤ i ∧ i < 22) ∨ (22 ≤ i ∧ i < 33) ∨ (33 ≤ i ∧ i < 44) ∨ (44 ≤ i ∧ i < 55) ∨ (55 ≤ i ∧ i < 66) ∨ (66 ≤ i ∧ i < 77) ∨ (77 ≤ i ∧ i < 88) ∨ (88 ≤ i ∧ i < 99) ∨ (99 ≤ i ∧ i < 110) ∨ (110 ≤ i ∧ i < 121) ∨ (121 ≤ i ∧ i < 132) := by omega
  rcases this with h | h | h | h | h | h | h | h | h | h | h | h
  ·exact chk_at adj_tab8_0 i (by omega) (by omega)
  ·exact chk_at adj_tab8_1 i (by omega) (by omega)
  ·exact chk_at adj_tab8_2 i (by omega) (by omega)
  ·exact chk_at adj_tab8_3 i (by omega) (by omega)
  ·exact chk_at adj_tab8_4 i (by omega) (by omega)
  ·exact chk_at adj_tab8_5 i (by omega) (by omega)
  ·exact chk_at adj_tab8_6 i (by omega) (by omega)
  ·exact chk_at adj_tab8_7 i (by omega) (by omega)
  ·exact chk_at adj_tab8_8 i (by omega) (by omega)
  ·exact chk_at adj_tab8_9 i (by omega) (by omega)
  ·exact chk_at adj_tab8_10 i (by omega) (by omega)
  ·exact chk_at adj_tab8_11 i (by omega) (by omega)
theorem far_ok {n : Nat} (hn : 3 ≤ n ∧ n ≤ 8) (i : Nat) (hi : i < (triT n).length) : farOf n i = farRow n i := by
 rcases six hn with rfl | rfl | rfl | rfl | rfl | rfl
 ·rw [len_tab3.1] at hi; exact fch_at far_tab3 i (by omega) (by omega)
 ·rw [len_tab4.1] at hi; exact fch_at far_tab4 i (by omega) (by omega)
 ·rw [len_tab5.1] at hi; exact fch_at far_tab5 i (by omega) (by omega)
 ·rw [len_tab6.1] at hi; exact fch_at far_tab6 i (by omega) (by omega)
 ·rw [len_tab7.1] at hi; exact fch_at far_tab7 i (by omega) (by omega)
 ·rw [len_tab8.1] at hi
  have : (0 ≤ i ∧ i < 11) ∨ (11 ≤ i ∧ i < 22) ∨ (22 ≤ i ∧ i < 33) ∨ (33 ≤ i ∧ i < 44) ∨ (44 ≤ i ∧ i < 55) ∨ (55 ≤ i ∧ i < 66) ∨ (66 ≤ i ∧ i < 77) ∨ (77 ≤ i ∧ i < 88) ∨ (88 ≤ i ∧ i < 99) ∨ (99 ≤ i ∧ i < 110) ∨ (110 ≤ i ∧ i < 121) ∨ (121 ≤ i ∧ i < 132) := by omega
  rcases this with h | h | h | h | h | h | h | h | h | h | h | h
  ·exact fch_at far_tab8_0 i (by omega) (by omega)
  ·exact fch_at far_tab8_1 i (by omega) (by omega)
  ·exact fch_at far_tab8_2 i (by omega) (by omega)
  ·exact fch_at far_tab8_3 i (by omega) (by omega)
  ·exact fch_at far_tab8_4 i (by omega) (by omega)
  ·exact fch_at far_tab8_5 i (by omega) (by omega)
  ·exact fch_at far_tab8_6 i (by omega) (by omega)
  ·exact fch_at far_tab8_7 i (by omega) (by omega)
  ·exact fch_at far_tab8_8 i (by omega) (by omega)
  ·exact fch_at far_tab8_9 i (by omega) (by omega)
  ·exact fch_at far_tab8_10 i (by omega) (by omega)
  ·exact fch_at far_tab8_11 i (by omega) (by omega)
/-- Rising numbers for the triangulations: no two are one. -/
def encT (x : List DG) : Nat := x.foldl (fun a d => a * 100 + (d.f0.toNat * 10 + d.f1.toNat)) 0
def risB : List Nat → Bool
 | a :: b :: l => decide (a < b) && risB (b :: l)
 | _ => true
theorem risB_lt : ∀ (l : List Nat) (a : Nat), risB (a :: l) = true → (a :: l).Pairwise fun x y => x < y
 | [], a, _ => by simp
 | b :: l, a, h => by
  simp only [risB, Bool.and_eq_true, decide_eq_true_eq] at h
  have ih := risB_lt l b h.2
  refine List.Pairwise.cons (fun y hy => ?_) ih
  rcases List.mem_cons.1 hy with rfl | hy
  ·exact h.1
  ·exact Nat.lt_trans h.1 ((List.pairwise_cons.1 ih).1 y hy)
set_option maxRecDepth 1000000 in
theorem ris_tab3 : risB ((triT 3).map encT) = true := by kernel_rfl
set_option maxRecDepth 1000000 in
theorem ris_tab4 : risB ((triT 4).map encT) = true := by kernel_rfl
set_option maxRecDepth 1000000 in
theorem ris_tab5 : risB ((triT 5).map encT) = true := by kernel_rfl
set_option maxRecDepth 1000000 in
theorem ris_tab6 : risB ((triT 6).map encT) = true := by kernel_rfl
set_option maxRecDepth 1000000 in
theorem ris_tab7 : risB ((triT 7).map encT) = true := by kernel_rfl
set_option maxRecDepth 1000000 in
theorem ris_tab8 : risB ((triT 8).map encT) = true := by kernel_rfl
theorem tri_inj {n : Nat} (hn : 3 ≤ n ∧ n ≤ 8) (i j : Nat) (hi : i < (triT n).length) (hj : j < (triT n).length) (h : (triT n)[i] = (triT n)[j]) : i = j := by
 have hr : risB ((triT n).map encT) = true := by
  rcases six hn with rfl | rfl | rfl | rfl | rfl | rfl
  ·exact ris_tab3
  ·exact ris_tab4
  ·exact ris_tab5
  ·exact ris_tab6
  ·exact ris_tab7
  ·exact ris_tab8
 have hp : ((triT n).map encT).Pairwise fun x y => x < y := by
  cases hc : (triT n).map encT with
  | nil => simp
  | cons a l => rw [hc] at hr; exact risB_lt l a hr
 rw [List.pairwise_map] at hp
 rcases Nat.lt_trichotomy i j with c | c | c
 ·have := List.pairwise_iff_getElem.1 hp i j hi hj c
  rw [h] at this; omega
 ·exact c
 ·have := List.pairwise_iff_getElem.1 hp j i hj hi c
  rw [h] at this; omega

/-- A diagonal's word. -/
def wd (d : DG) : List UInt8 := [UInt8.ofNat (48 + d.f0.toNat), 45, UInt8.ofNat (48 + d.f1.toNat)]
/-- The text of diagonals. -/
def dtx (l : List DG) : ByteArray := if l.length = 0 then ⟨#[46]⟩ else ⟨(Lib.join (l.map wd) [44]).toArray⟩
theorem itoa_small (a : Int) (h : 0 ≤ a ∧ a ≤ 9) : strconv_Itoa.f a = some ⟨#[UInt8.ofNat (48 + a.toNat)]⟩ := by
 unfold strconv_Itoa.f
 rw [if_pos (by omega)]
 unfold Lib.itoa
 rw [if_neg (by omega), Lib.decDigits_one (by omega)]
theorem word_eq (x y : UInt8) : (⟨#[x]⟩ ++ ⟨#[45]⟩ : ByteArray) ++ ⟨#[y]⟩ = ⟨#[x, 45, y]⟩ := by
 apply ByteArray.ext
 rw [ByteArray.data_append, ByteArray.data_append]
 rfl
theorem text_rounds (l : List DG) (hl : l.length ≤ 1000) (hd : ∀ d ∈ l, (0 ≤ d.f0 ∧ d.f0 ≤ 9) ∧ (0 ≤ d.f1 ∧ d.f1 ≤ 9)) : ∀ (e i k : Nat) (acc : List ByteArray), i + e = l.length → acc.length ≤ i → e < k →
  impl_diagonalsText.l0 k acc l (l.length : Int) (i : Int) = (strings_Join.f (acc ++ (l.drop i).map fun d => ⟨(wd d).toArray⟩) ⟨#[44]⟩).bind fun t => some t
 | 0, i, k, acc, hi, ha, hk => by
  obtain ⟨k, rfl⟩ : ∃ q, k = q + 1 := ⟨k - 1, by omega⟩
  simp only [impl_diagonalsText.l0]
  rw [if_neg (by omega), List.drop_of_length_le (by omega), List.map_nil, List.append_nil]
 | e + 1, i, k, acc, hi, ha, hk => by
  obtain ⟨k, rfl⟩ : ∃ q, k = q + 1 := ⟨k - 1, by omega⟩
  have hm : rD l i ∈ l := by
   have : rD l i ∈ l.drop i := by
    rw [rD_drop l i (by omega)]
    exact List.mem_cons_self ..
   exact List.mem_of_mem_drop this
  obtain ⟨h0, h1⟩ := hd _ hm
  have s1 : ∀ x : UInt8, (⟨#[x]⟩ : ByteArray).size = 1 := fun x => rfl
  simp only [impl_diagonalsText.l0]
  rw [if_pos (by omega), if_pos (by omega), if_pos (by omega), itoa_small _ h0, Option.bind_some, s1, if_pos (by omega), itoa_small _ h1, Option.bind_some, ByteArray.size_append, s1, s1, s1, if_pos (by omega), if_pos (by omega), word_eq, wrap_succ i (by omega), text_rounds l hl hd e (i + 1) k _ (by omega) (by simp; omega) (by omega), rD_drop l i (by omega), List.map_cons, List.append_assoc]
  rfl
theorem lens_wd (l : List DG) : Lib.lens (l.map wd) = 3 * l.length := by
 induction l with
 | nil => rfl
 | cons d l ih =>
  rw [List.map_cons, List.length_cons]
  unfold Lib.lens at ih ⊢
  rw [List.map_cons, List.sum_cons, ih]
  show 3 + 3 * l.length = _
  omega
theorem join_wd (l : List DG) : (Lib.join (l.map wd) [44]).length ≤ 4 * l.length := by
 cases l with
 | nil => simp [Lib.join_nil]
 | cons d l =>
  rw [List.map_cons, Lib.join_cons, List.length_append, Lib.joinTail_length, lens_wd, List.length_map, show (wd d).length = 3 from rfl]
  simp only [List.length_cons, List.length_nil]
  omega
theorem text_tells (l : List DG) (hl : l.length ≤ 1000) (hd : ∀ d ∈ l, (0 ≤ d.f0 ∧ d.f0 ≤ 9) ∧ (0 ≤ d.f1 ∧ d.f1 ≤ 9)) (k : Nat) (hk : l.length < k) : impl_diagonalsText.f k l = some (dtx l) := by
 unfold impl_diagonalsText.f dtx
 by_cases h0 : l.length = 0
 ·rw [if_pos (by omega), if_pos h0]
 ·rw [if_neg (by omega), if_neg h0]
  have h := text_rounds l hl hd l.length 0 k [] (by omega) (Nat.le_refl _) hk
  rw [List.drop_zero, List.nil_append] at h
  refine h.trans ?_
  have hj := join_wd l
  have e : ((l.map fun d => (⟨(wd d).toArray⟩ : ByteArray)).map fun (x : ByteArray) => x.data.toList) = l.map wd := by
   rw [List.map_map]
   rfl
  unfold strings_Join.f
  rw [e, if_pos ⟨by rw [List.length_map]; omega, by show (Lib.join (l.map wd) [44]).length ≤ _; omega⟩]
  rfl
theorem text_size (l : List DG) (hl : l.length ≤ 1000) : (dtx l).size ≤ 1000000 := by
 unfold dtx
 split
 ·show 1 ≤ _; omega
 ·have := join_wd l
  show (Lib.join (l.map wd) [44]).toArray.size ≤ _
  rw [List.size_toArray]
  omega
theorem wd_inj {d e : DG} (hd : (0 ≤ d.f0 ∧ d.f0 ≤ 9) ∧ (0 ≤ d.f1 ∧ d.f1 ≤ 9)) (he : (0 ≤ e.f0 ∧ e.f0 ≤ 9) ∧ (0 ≤ e.f1 ∧ e.f1 ≤ 9)) (h : wd d = wd e) : d = e := by
 unfold wd at h
 injection h with h1 h2
 injection h2 with _ h3
 injection h3 with h3 _
 have u : ∀ a b : Nat, a ≤ 9 → b ≤ 9 → UInt8.ofNat (48 + a) = UInt8.ofNat (48 + b) → a = b := fun a b ha hb hab => by
  have := congrArg UInt8.toNat hab
  rw [UInt8.toNat_ofNat', UInt8.toNat_ofNat'] at this
  omega
 have e0 := u _ _ (by omega) (by omega) h1
 have e1 := u _ _ (by omega) (by omega) h3
 obtain ⟨a, b⟩ := d
 obtain ⟨a', b'⟩ := e
 simp only at hd he e0 e1
 have : a = a' := by omega
 have : b = b' := by omega
 subst_vars
 rfl
theorem tail_inj : ∀ l m : List DG, l.length = m.length → (∀ d ∈ l, (0 ≤ d.f0 ∧ d.f0 ≤ 9) ∧ (0 ≤ d.f1 ∧ d.f1 ≤ 9)) → (∀ d ∈ m, (0 ≤ d.f0 ∧ d.f0 ≤ 9) ∧ (0 ≤ d.f1 ∧ d.f1 ≤ 9)) → Lib.joinTail [44] (l.map wd) = Lib.joinTail [44] (m.map wd) → l = m
 | [], [], _, _, _, _ => rfl
 | [], e :: m, h, _, _, _ => by simp at h
 | d :: l, [], h, _, _, _ => by simp at h
 | d :: l, e :: m, h, hl, hm, hj => by
  unfold Lib.joinTail at hj
  simp only [List.map_cons, List.flatten_cons] at hj
  obtain ⟨h1, h2⟩ := List.append_inj hj rfl
  injection h1 with _ h1
  rw [wd_inj (hl d (List.mem_cons_self ..)) (hm e (List.mem_cons_self ..)) h1, tail_inj l m (by simpa using h) (fun x hx => hl x (List.mem_cons_of_mem _ hx)) (fun x hx => hm x (List.mem_cons_of_mem _ hx)) h2]
theorem dtx_inj (l m : List DG) (h : l.length = m.length) (hl : ∀ d ∈ l, (0 ≤ d.f0 ∧ d.f0 ≤ 9) ∧ (0 ≤ d.f1 ∧ d.f1 ≤ 9)) (hm : ∀ d ∈ m, (0 ≤ d.f0 ∧ d.f0 ≤ 9) ∧ (0 ≤ d.f1 ∧ d.f1 ≤ 9)) (e : dtx l = dtx m) : l = m := by
 unfold dtx at e
 cases l with
 | nil =>
  cases m with
  | nil => rfl
  | cons y m => simp at h
 | cons x l =>
  cases m with
  | nil => simp at h
  | cons y m =>
   rw [if_neg (by simp), if_neg (by simp)] at e
   injection e with e
   have e2 : Lib.join ((x :: l).map wd) [44] = Lib.join ((y :: m).map wd) [44] := by
    have := congrArg Array.toList e
    simpa using this
   rw [List.map_cons, List.map_cons, Lib.join_cons, Lib.join_cons] at e2
   obtain ⟨h1, h2⟩ := List.append_inj e2 rfl
   rw [wd_inj (hl x (List.mem_cons_self ..)) (hm y (List.mem_cons_self ..)) h1, tail_inj l m (by simpa using h) (fun x hx => hl x (List.mem_cons_of_mem _ hx)) (fun x hx => hm x (List.mem_cons_of_mem _ hx)) h2]

/-- The triangulation at a place. -/
def tr (n i : Nat) : List DG := (triT n).getD i []
theorem tr_get {n i : Nat} (hi : i < (triT n).length) : tr n i = (triT n)[i] := by
 unfold tr
 rw [List.getD_eq_getElem?_getD, List.getElem?_eq_getElem hi]
 rfl
theorem tr_tri {n : Nat} (hn : 3 ≤ n ∧ n ≤ 8) {i : Nat} (hi : i < (triT n).length) : Tri (n : Int) (tr n i) := by
 rw [tr_get hi]
 exact tris_only (n : Int) (by omega) _ (by rw [tri_tab hn]; exact List.getElem_mem _)
theorem tr_inj {n : Nat} (hn : 3 ≤ n ∧ n ≤ 8) {i j : Nat} (hi : i < (triT n).length) (hj : j < (triT n).length) (h : tr n i = tr n j) : i = j := by
 rw [tr_get hi, tr_get hj] at h
 exact tri_inj hn i j hi hj h
theorem tr_small {n : Nat} (hn : 3 ≤ n ∧ n ≤ 8) {i : Nat} (hi : i < (triT n).length) : (tr n i).length ≤ 9 ∧ ∀ d ∈ tr n i, (0 ≤ d.f0 ∧ d.f0 ≤ 9) ∧ (0 ≤ d.f1 ∧ d.f1 ≤ 9) := by
 have T := tr_tri hn hi
 refine ⟨T.small, fun d hd => ?_⟩
 have := T.ok d hd
 omega
theorem tr_text {n : Nat} (hn : 3 ≤ n ∧ n ≤ 8) {i : Nat} (hi : i < (triT n).length) (k : Nat) (hk : 20 < k) : impl_diagonalsText.f k (tr n i) = some (dtx (tr n i)) ∧ (dtx (tr n i)).size ≤ 1000000 := by
 obtain ⟨h1, h2⟩ := tr_small hn hi
 exact ⟨text_tells _ (by omega) h2 k (by omega), text_size _ (by omega)⟩
theorem tr_dtx {n : Nat} (hn : 3 ≤ n ∧ n ≤ 8) {i j : Nat} (hi : i < (triT n).length) (hj : j < (triT n).length) (h : dtx (tr n i) = dtx (tr n j)) : i = j := by
 have l1 := (tr_tri hn hi).len
 have l2 := (tr_tri hn hj).len
 exact tr_inj hn hi hj (dtx_inj _ _ (by omega) (tr_small hn hi).2 (tr_small hn hj).2 h)
theorem tr_at {n : Nat} (hn : 3 ≤ n ∧ n ≤ 8) {x : List DG} (T : Tri (n : Int) x) : ∃ i, i < (triT n).length ∧ tr n i = x := by
 have h := tris_full (n : Int) (by omega) x T
 rw [tri_tab hn] at h
 obtain ⟨i, hi, e⟩ := List.getElem_of_mem h
 exact ⟨i, hi, by rw [tr_get hi, e]⟩
/-- The places of the flips. -/
def ad (n i : Nat) : List Nat := (adjT n).getD i []
theorem ad_ok {n : Nat} (hn : 3 ≤ n ∧ n ≤ 8) {i : Nat} (hi : i < (triT n).length) : (tr n i).length = (ad n i).length ∧ ∀ p (hp : p < (ad n i).length) (hq : p < (tr n i).length), (ad n i)[p] < (triT n).length ∧ ∀ k, 20020 < k → spec_flMake.f k (n : Int) (tr n i) (tr n i)[p].f0 (tr n i)[p].f1 = some (tr n (ad n i)[p]) ∧ impl_flipped.f k (n : Int) (tr n i) (tr n i)[p].f0 (tr n i)[p].f1 = some (tr n (ad n i)[p]) := by
 have h := adj_ok hn i hi
 unfold chkRow at h
 rw [Bool.and_eq_true, decide_eq_true_eq] at h
 obtain ⟨hl, h⟩ := h
 refine ⟨hl, fun p hp hq => ?_⟩
 have hz := List.all_eq_true.1 h ((tr n i)[p], (ad n i)[p]) (by
  have : ((tr n i).zip (ad n i))[p]? = some ((tr n i)[p], (ad n i)[p]) := by
   rw [List.getElem?_zip_eq_some]
   exact ⟨List.getElem?_eq_getElem hq, List.getElem?_eq_getElem hp⟩
  exact List.mem_of_getElem? this)
 rw [Bool.and_eq_true, decide_eq_true_eq] at hz
 obtain ⟨hj, hm⟩ := hz
 refine ⟨hj, ?_⟩
 have T := tr_tri hn hi
 obtain ⟨x, o, x1, x2, o1, o2, o3, hap⟩ := T.apex2 (tr n i)[p] (List.getElem_mem _)
 obtain ⟨r, A, B, e, r1, r2, r3⟩ := flip_same T (tr n i)[p] (List.getElem_mem _) x o x1 x2 o1 o2 o3 hap
 have h20 : spec_flMake.f 20100 (n : Int) (tr n i) (tr n i)[p].f0 (tr n i)[p].f1 = some r := (r3 20100 (by omega)).1
 have hm2 : (match spec_flMake.f 20100 (n : Int) (tr n i) (tr n i)[p].f0 (tr n i)[p].f1 with | some y => eqL y (tr n (ad n i)[p]) | none => false) = true := hm
 rw [h20] at hm2
 have er : r = tr n (ad n i)[p] := (eqL_iff _ _).1 hm2
 rw [← er]
 exact r3
theorem rdLDt {n : Nat} (i : Nat) (hi : i < (triT n).length) : rd_L3 (triT n) (i : Int) = tr n i := by
 rw [tr_get hi]
 unfold rd_L3
 rw [Int.toNat_natCast, List.getD_eq_getElem?_getD, List.getElem?_eq_getElem hi]
 rfl
theorem find_rounds {n : Nat} (hn : 3 ≤ n ∧ n ≤ 8) (i : Nat) (hi : i < (triT n).length) : ∀ (e j k : Nat), j + e = i → e + 30 < k → spec_flFind.l0 k (tr n i) (triT n) ((triT n).length : Int) (j : Int) = some (i : Int)
 | 0, j, k, hj, hk => by
  obtain ⟨k, rfl⟩ : ∃ q, k = q + 1 := ⟨k - 1, by omega⟩
  simp only [spec_flFind.l0]
  rw [if_pos (by omega), if_pos (by omega), if_pos (by omega), rdLDt j (by omega), show j = i by omega, same_is _ _ (by have := (tr_small hn hi).1; omega) k (by have := (tr_small hn hi).1; omega), Option.bind_some, if_pos ((eqL_iff _ _).2 rfl)]
 | e + 1, j, k, hj, hk => by
  obtain ⟨k, rfl⟩ : ∃ q, k = q + 1 := ⟨k - 1, by omega⟩
  have hjl : j < (triT n).length := by omega
  have hb := (tr_small hn hjl).1
  simp only [spec_flFind.l0]
  rw [if_pos (by omega), if_pos (by omega), if_pos (by omega), rdLDt j hjl, same_is _ _ (by omega) k (by omega), Option.bind_some, if_neg (fun h => by have := tr_inj hn hjl hi ((eqL_iff _ _).1 h); omega), wrap_succ j (by have := (len_tab hn).1; omega)]
  exact find_rounds hn i hi e (j + 1) k (by omega) (by omega)
theorem find_tells {n : Nat} (hn : 3 ≤ n ∧ n ≤ 8) {i : Nat} (hi : i < (triT n).length) (k : Nat) (hk : 200 < k) : spec_flFind.f k (triT n) (tr n i) = some (i : Int) :=
 find_rounds hn i hi i 0 k (by omega) (by have := (len_tab hn).1; omega)

def cnt (far : List Int) : Nat := far.countP fun v => decide (0 ≤ v)
theorem cnt_le (far : List Int) : cnt far ≤ far.length := List.countP_le_length
structure Inv (n : Nat) (far : List Int) (C : List (ByteArray × Int)) (Q : List Nat) : Prop where
 len : far.length = (triT n).length
 rel : ∀ i, i < (triT n).length → lkC C (dtx (tr n i)) = if far.getD i 0 < 0 then none else some (far.getD i 0)
 cl : C.length = cnt far
 bd : ∀ v ∈ far, v ≤ (cnt far : Int)
 qs : ∀ x ∈ Q, x < (triT n).length ∧ 0 ≤ far.getD x 0
theorem far_set (far : List Int) (a : Nat) (v : Int) (j : Nat) (ha : a < far.length) : (far.set a v).getD j 0 = if j = a then v else far.getD j 0 := by
 rw [List.getD_eq_getElem?_getD, List.getD_eq_getElem?_getD, List.getElem?_set]
 by_cases h : j = a
 ·subst h; simp [ha]
 ·rw [if_neg (by omega), if_neg h]
theorem far_get (far : List Int) (j : Nat) (h : j < far.length) : far.getD j 0 = far[j] := by rw [List.getD_eq_getElem?_getD, List.getElem?_eq_getElem h]; rfl
theorem Inv.push {n : Nat} (hn : 3 ≤ n ∧ n ≤ 8) {far : List Int} {C : List (ByteArray × Int)} {Q : List Nat} (h : Inv n far C Q) {i : Nat} (hi : i < (triT n).length) (hneg : far.getD i 0 < 0) {u : Int} (u0 : 0 ≤ u) (u1 : u ≤ (cnt far : Int)) :
  Inv n (far.set i (u + 1)) ((dtx (tr n i), u + 1) :: C) (Q ++ [i]) ∧ cnt (far.set i (u + 1)) = cnt far + 1 := by
 have hl := h.len
 have hc : cnt (far.set i (u + 1)) = cnt far + 1 := by
  unfold cnt
  have hg := far_get far i (by omega)
  rw [List.countP_set (by omega), if_neg (by rw [decide_eq_true_eq]; omega), if_pos (by rw [decide_eq_true_eq]; omega), Nat.sub_zero]
 refine ⟨⟨by rw [List.length_set]; exact hl, fun j hj => ?_, by rw [List.length_cons, hc, h.cl], fun v hv => ?_, fun x hx => ?_⟩, hc⟩
 ·rw [far_set far i _ j (by omega)]
  unfold lkC
  by_cases e : j = i
  ·subst e
   rw [if_pos rfl, if_pos rfl, if_neg (by omega)]
  ·rw [if_neg (fun e2 => e (tr_dtx hn hi hj e2).symm), if_neg e]
   exact h.rel j hj
 ·rw [hc]
  rcases List.mem_or_eq_of_mem_set hv with h2 | h2
  ·have := h.bd v h2; omega
  ·omega
 ·rcases List.mem_append.1 hx with h2 | h2
  ·obtain ⟨a, b⟩ := h.qs x h2
   refine ⟨a, ?_⟩
   rw [far_set far i _ x (by omega), if_neg (fun e => by subst e; omega)]
   exact b
  ·rw [List.mem_singleton.1 h2]
   refine ⟨hi, ?_⟩
   rw [far_set far i _ i (by omega), if_pos rfl]
   omega
theorem ad_drop {n i p : Nat} (hp : p < (ad n i).length) : (ad n i).drop p = (ad n i)[p] :: (ad n i).drop (p + 1) := List.drop_eq_getElem_cons hp
theorem tr_drop {n i p : Nat} (hp : p < (tr n i).length) : (tr n i).drop p = (tr n i)[p] :: (tr n i).drop (p + 1) := List.drop_eq_getElem_cons hp
theorem prog_in {n : Nat} (hn : 3 ≤ n ∧ n ≤ 8) (k : Nat) (hk : 20100 < k) {q : Nat} (hq : q < (triT n).length) {u : Int} (u0 : 0 ≤ u) : ∀ (e p : Nat) (far : List Int) (C : List (ByteArray × Int)) (Q : List Nat), p + e = (ad n q).length → Inv n far C Q → u ≤ (cnt far : Int) → Q.length ≤ cnt far →
  ∃ C', dstIn k (n : Int) (tr n q) u ((tr n q).drop p) C (Q.map (tr n)) = some (C', (bIn u ((ad n q).drop p) far Q).2.map (tr n)) ∧ Inv n (bIn u ((ad n q).drop p) far Q).1 C' (bIn u ((ad n q).drop p) far Q).2 ∧
   (bIn u ((ad n q).drop p) far Q).2.length + cnt far = Q.length + cnt (bIn u ((ad n q).drop p) far Q).1 ∧ cnt far ≤ cnt (bIn u ((ad n q).drop p) far Q).1 := by
 obtain ⟨hlen, hall⟩ := ad_ok hn hq
 have hN := (len_tab hn).1
 intro e
 induction e with
 | zero =>
  intro p far C Q hp h h1 h2
  rw [List.drop_of_length_le (show (ad n q).length ≤ p by omega), List.drop_of_length_le (show (tr n q).length ≤ p by omega)]
  exact ⟨C, rfl, h, rfl, Nat.le_refl _⟩
 | succ e ih =>
  intro p far C Q hp h h1 h2
  have p1 : p < (ad n q).length := by omega
  have p2 : p < (tr n q).length := by omega
  obtain ⟨hj, hf⟩ := hall p p1 p2
  have hc := cnt_le far
  have hl := h.len
  obtain ⟨t1, t2⟩ := tr_text hn hj k (by omega)
  rw [ad_drop p1, tr_drop p2]
  unfold dstIn bIn
  rw [(hf k (by omega)).2, Option.bind_some, t1, Option.bind_some, if_pos ⟨t2, by rw [h.cl]; omega, by rw [List.length_map]; omega⟩, h.rel _ hj]
  by_cases hneg : far.getD (ad n q)[p] 0 < 0
  ·obtain ⟨h', hc'⟩ := h.push hn hj hneg u0 h1
   rw [if_pos hneg, if_pos hneg, if_neg (by simp)]
   obtain ⟨C', a, b, c, d⟩ := ih (p + 1) _ _ _ (by omega) h' (by omega) (by rw [List.length_append, List.length_singleton]; omega)
   have w : wrap64 (u + 1) = u + 1 := by unfold wrap64; omega
   refine ⟨C', ?_, b, ?_, by omega⟩
   ·rw [w]
    rw [List.map_append] at a
    exact a
   ·rw [List.length_append, List.length_singleton] at c
    omega
  ·rw [if_neg hneg, if_neg hneg, if_pos (show (some (far.getD (ad n q)[p] 0)).isSome = true from rfl)]
   exact ih (p + 1) far C Q (by omega) h h1 h2
def cst (F : List Nat) : List Int := F.map fun x : Nat => (x : Int)
theorem rd_cst (F : List Nat) (t : Nat) (h : t < F.length) : rd (cst F) (t : Int) = (F[t] : Int) := by
 unfold rd cst
 rw [Int.toNat_natCast, List.getD_eq_getElem?_getD, List.getElem?_map, List.getElem?_eq_getElem h]
 rfl
theorem rd_far (far : List Int) (t : Nat) : rd far (t : Int) = far.getD t 0 := rfl
theorem rdLDm (F : List (List DG)) (i : Nat) (hi : i < F.length) : rd_L3 F (i : Int) = F[i] := by
 unfold rd_L3
 rw [Int.toNat_natCast, List.getD_eq_getElem?_getD, List.getElem?_eq_getElem hi]
 rfl
theorem all_rounds {n : Nat} (hn : 3 ≤ n ∧ n ≤ 8) {q : Nat} (hq : q < (triT n).length) : ∀ (e p k : Nat) (acc : List (List DG)), p + e = (tr n q).length → acc.length ≤ p → 20030 + e < k →
  spec_flAll.l0 k (n : Int) (tr n q) acc (tr n q) ((tr n q).length : Int) (p : Int) = some (acc ++ ((ad n q).drop p).map (tr n)) := by
 obtain ⟨hlen, hall⟩ := ad_ok hn hq
 have hs := (tr_small hn hq).1
 intro e
 induction e with
 | zero =>
  intro p k acc hp ha hk
  obtain ⟨k, rfl⟩ : ∃ q, k = q + 1 := ⟨k - 1, by omega⟩
  simp only [spec_flAll.l0]
  rw [if_neg (by omega), List.drop_of_length_le (by omega), List.map_nil, List.append_nil]
 | succ e ih =>
  intro p k acc hp ha hk
  obtain ⟨k, rfl⟩ : ∃ q, k = q + 1 := ⟨k - 1, by omega⟩
  have p1 : p < (ad n q).length := by omega
  have p2 : p < (tr n q).length := by omega
  obtain ⟨hj, hf⟩ := hall p p1 p2
  have hr : rd_T38 (tr n q) (p : Int) = (tr n q)[p] := rD_get _ _ p2
  simp only [spec_flAll.l0]
  rw [if_pos (by omega), if_pos (by omega), if_pos (by omega), hr, (hf k (by omega)).1, Option.bind_some, if_pos (by omega), wrap_succ p (by omega), ih (p + 1) k _ (by omega) (by simp; omega) (by omega), ad_drop p1, List.map_cons, List.append_assoc]
  rfl
theorem all_tells {n : Nat} (hn : 3 ≤ n ∧ n ≤ 8) {q : Nat} (hq : q < (triT n).length) (k : Nat) (hk : 20050 < k) : spec_flAll.f k (n : Int) (tr n q) = some ((ad n q).map (tr n)) := by
 have h := all_rounds hn hq (tr n q).length 0 k [] (by omega) (Nat.le_refl _) (by have := (tr_small hn hq).1; omega)
 rw [List.drop_zero, List.nil_append] at h
 exact h
theorem spec_in {n : Nat} (hn : 3 ≤ n ∧ n ≤ 8) {q : Nat} (hq : q < (triT n).length) {u : Int} (u0 : 0 ≤ u ∧ u ≤ 1000) (A : List Nat) (kk : Nat) (hkk : 300 < kk) : ∀ (e p : Nat) (far : List Int) (Q : List Nat), p + e = (ad n q).length → far.length = (triT n).length → far.getD q 0 = u → (A ++ q :: Q).length + e ≤ 100000 →
  spec_flFar.l2 (kk + e + 1) (n : Int) (triT n) far (cst (A ++ q :: Q)) (A.length : Int) ((ad n q).map (tr n)) (((ad n q).map (tr n)).length : Int) (p : Int) = spec_flFar.l1 kk (n : Int) (triT n) (bIn u ((ad n q).drop p) far (q :: Q)).1 (cst (A ++ (bIn u ((ad n q).drop p) far (q :: Q)).2)) ((A.length + 1 : Nat) : Int) := by
 obtain ⟨hlen, hall⟩ := ad_ok hn hq
 have hs := (tr_small hn hq).1
 have hN := (len_tab hn).1
 intro e
 induction e with
 | zero =>
  intro p far Q hp hl hu hb
  simp only [spec_flFar.l2, bIn]
  rw [if_neg (by rw [List.length_map]; omega), List.drop_of_length_le (by omega), wrap_succ A.length (by rw [List.length_append] at hb; omega)]
  rfl
 | succ e ih =>
  intro p far Q hp hl hu hb
  have p1 : p < (ad n q).length := by omega
  obtain ⟨hj, _⟩ := hall p p1 (by omega)
  have hr : rd_L3 ((ad n q).map (tr n)) (p : Int) = tr n (ad n q)[p] := by
   rw [rdLDm _ p (by rw [List.length_map]; exact p1), List.getElem_map]
  have hla : (cst (A ++ q :: Q)).length = (A ++ q :: Q).length := by unfold cst; rw [List.length_map]
  have hql : (A ++ q :: Q).length = A.length + (Q.length + 1) := by rw [List.length_append, List.length_cons]
  have hat : rd (cst (A ++ q :: Q)) (A.length : Int) = (q : Int) := by
   rw [rd_cst _ _ (by omega)]
   simp
  rw [ad_drop p1, show kk + (e + 1) + 1 = (kk + e + 1) + 1 by omega]
  simp only [spec_flFar.l2]
  rw [if_pos (by rw [List.length_map]; omega), if_pos (by omega), if_pos (by rw [List.length_map]; omega), hr, find_tells hn hj _ (by omega), Option.bind_some, if_pos (by omega), if_pos (by omega), rd_far]
  unfold bIn
  by_cases hneg : far.getD (ad n q)[p] 0 < 0
  ·have w : wrap64 (u + 1) = u + 1 := by unfold wrap64; omega
   rw [if_pos hneg, if_pos hneg, if_pos (by omega), if_pos (by omega), hat, if_pos (by omega), if_pos (by omega), if_pos (by omega), rd_far, hu, w, wrap_succ p (by omega), Int.toNat_natCast]
   have hne : q ≠ (ad n q)[p] := fun e2 => by rw [← e2, hu] at hneg; omega
   have h := ih (p + 1) (far.set (ad n q)[p] (u + 1)) (Q ++ [(ad n q)[p]]) (by omega) (by rw [List.length_set]; exact hl) (by rw [far_set far _ _ q (by omega), if_neg hne]; exact hu) (by simp at hb ⊢; omega)
   have e1 : cst (A ++ q :: Q) ++ [((ad n q)[p] : Int)] = cst (A ++ q :: (Q ++ [(ad n q)[p]])) := by
    unfold cst
    simp
   rw [e1]
   exact h
  ·rw [if_neg hneg, if_neg hneg, wrap_succ p (by omega)]
   exact ih (p + 1) far Q (by omega) hl hu (by omega)
theorem both_loop {n : Nat} (hn : 3 ≤ n ∧ n ≤ 8) (k : Nat) (hk : 20100 < k) : ∀ (m : Nat) (far : List Int) (C : List (ByteArray × Int)) (A Q : List Nat), Inv n far C Q → A.length + Q.length = cnt far → Q.length + (triT n).length < m + cnt far →
  ∃ C', (∀ m', m ≤ m' → dstLoop k (n : Int) m' C (Q.map (tr n)) = some C') ∧ Inv n (bLoop (adjT n) m far Q) C' [] ∧ ∀ kk, 21000 + 20 * m < kk → spec_flFar.l1 kk (n : Int) (triT n) far (cst (A ++ Q)) (A.length : Int) = some (bLoop (adjT n) m far Q) := by
 have hN := (len_tab hn).1
 intro m
 induction m with
 | zero =>
  intro far C A Q h ha hm
  have := cnt_le far
  have := h.len
  omega
 | succ m ih =>
  intro far C A Q h ha hm
  have hcl := cnt_le far
  have hfl := h.len
  cases Q with
  | nil =>
   refine ⟨C, fun m' hm' => ?_, h, fun kk hkk => ?_⟩
   ·obtain ⟨m', rfl⟩ : ∃ q, m' = q + 1 := ⟨m' - 1, by omega⟩
    rfl
   ·obtain ⟨kk, rfl⟩ : ∃ q, kk = q + 1 := ⟨kk - 1, by omega⟩
    simp only [spec_flFar.l1]
    rw [if_neg (by unfold cst; rw [List.length_map, List.append_nil]; omega)]
    rfl
  | cons q Q =>
   obtain ⟨hq, hu⟩ := h.qs q (List.mem_cons_self ..)
   have hud : far.getD q 0 ≤ (cnt far : Int) := by
    rw [far_get far q (by omega)]
    exact h.bd _ (List.getElem_mem _)
   rw [List.length_cons] at ha hm
   obtain ⟨C1, g1, g2, g3, g4⟩ := prog_in hn k hk hq hu (ad n q).length 0 far C (q :: Q) (by omega) h hud (by rw [List.length_cons]; omega)
   rw [List.drop_zero, List.drop_zero] at g1
   rw [List.drop_zero] at g2 g3 g4
   rw [List.length_cons] at g3
   obtain ⟨F, hF⟩ : ∃ F, F = bIn (far.getD q 0) (ad n q) far (q :: Q) := ⟨_, rfl⟩
   rw [← hF] at g1 g2 g3 g4
   have hcl2 := cnt_le F.1
   have hfl2 := g2.len
   -- the queue keeps its head
   have hhead : ∀ (u : Int) (js : List Nat) (f : List Int) (Q0 : List Nat), ∃ R, (bIn u js f (q :: Q0)).2 = q :: R := by
    intro u js
    induction js with
    | nil => intro f Q0; exact ⟨Q0, rfl⟩
    | cons j js ihj =>
     intro f Q0
     unfold bIn
     by_cases hn' : f.getD j 0 < 0
     ·rw [if_pos hn']; exact ihj _ (Q0 ++ [j])
     ·rw [if_neg hn']; exact ihj _ Q0
   obtain ⟨R, hR⟩ := hhead (far.getD q 0) (ad n q) far Q
   rw [← hF] at hR
   have g2' : Inv n F.1 C1 (F.2.drop 1) := ⟨g2.len, g2.rel, g2.cl, g2.bd, fun x hx => g2.qs x (List.mem_of_mem_drop hx)⟩
   have hRl : (F.2.drop 1).length + 1 = F.2.length := by rw [hR]; simp
   obtain ⟨C2, k1, k2, k3⟩ := ih F.1 C1 (A ++ [q]) (F.2.drop 1) g2' (by rw [List.length_append, List.length_singleton]; omega) (by omega)
   have hbl : bLoop (adjT n) (m + 1) far (q :: Q) = bLoop (adjT n) m F.1 (F.2.drop 1) := by
    rw [hF]
    rfl
   refine ⟨C2, fun m' hm' => ?_, by rw [hbl]; exact k2, fun kk hkk => ?_⟩
   ·obtain ⟨m', rfl⟩ : ∃ z, m' = z + 1 := ⟨m' - 1, by omega⟩
    obtain ⟨t1, t2⟩ := tr_text hn hq k (by omega)
    have hs := (tr_small hn hq).1
    rw [List.map_cons]
    unfold dstLoop
    rw [t1, Option.bind_some, if_pos ⟨t2, by omega⟩, h.rel q hq, if_neg (by omega), Option.getD_some, ← List.map_cons, g1, Option.bind_some]
    simp only [← List.map_drop]
    exact k1 m' (by omega)
   ·obtain ⟨kk, rfl⟩ : ∃ z, kk = z + (ad n q).length + 1 + 1 := ⟨kk - (ad n q).length - 2, by have := (tr_small hn hq).1; have := (ad_ok hn hq).1; omega⟩
    have hs := (tr_small hn hq).1
    have hal := (ad_ok hn hq).1
    have hql : (A ++ q :: Q).length = A.length + (Q.length + 1) := by rw [List.length_append, List.length_cons]
    have hat : rd (cst (A ++ q :: Q)) (A.length : Int) = (q : Int) := by
     rw [rd_cst _ _ (by omega)]
     simp
    simp only [spec_flFar.l1]
    rw [if_pos (by unfold cst; rw [List.length_map]; omega), if_pos (by omega), hat, if_pos (by omega), if_pos (by omega), rdLDt q hq, all_tells hn hq _ (by omega), Option.bind_some]
    have hsp := spec_in hn hq ⟨hu, by omega⟩ A kk (by omega) (ad n q).length 0 far Q (by omega) hfl rfl (by omega)
    rw [List.drop_zero, ← hF] at hsp
    refine Eq.trans hsp ?_
    rw [hbl]
    have hk3 := k3 kk (by omega)
    rw [show (A ++ [q]).length = A.length + 1 by simp, show A ++ [q] ++ F.2.drop 1 = A ++ F.2 by rw [hR]; simp] at hk3
    exact hk3
theorem fill_rounds {n : Nat} (hn : 3 ≤ n ∧ n ≤ 8) {s : Nat} (hs : s < (triT n).length) : ∀ (e i kk : Nat) (far : List Int), i + e = (triT n).length → far.length = (triT n).length → (∀ j, j < i → far.getD j 0 = -1) → 300 < kk →
  spec_flFar.l0 (kk + e + 1) (n : Int) (triT n) (tr n s) far ((triT n).length : Int) (i : Int) = spec_flFar.l1 (kk) (n : Int) (triT n) ((List.replicate (triT n).length (-1 : Int)).set s 0) (cst [s]) 0
 | 0, i, kk, far, hi, hl, hf, hk => by
  have e : far = List.replicate (triT n).length (-1 : Int) := by
   apply List.ext_getElem (by rw [List.length_replicate]; exact hl)
   intro j h1 h2
   have := hf j (by omega)
   rw [far_get far j h1] at this
   rw [this, List.getElem_replicate]
  simp only [spec_flFar.l0]
  rw [if_neg (by omega), find_tells hn hs _ (by omega), Option.bind_some, Option.bind_some]
  have r0 : rd [(s : Int)] 0 = (s : Int) := rfl
  rw [if_pos (by simp), r0, if_pos (by omega), if_pos (by omega), Int.toNat_natCast, e]
  rfl
 | e + 1, i, kk, far, hi, hl, hf, hk => by
  have hN := (len_tab hn).1
  rw [show kk + (e + 1) + 1 = (kk + e + 1) + 1 by omega]
  simp only [spec_flFar.l0]
  rw [if_pos (by omega), if_pos (by omega), if_pos (by omega), wrap_succ i (by omega), Int.toNat_natCast]
  exact fill_rounds hn hs e (i + 1) kk _ (by omega) (by rw [List.length_set]; exact hl) (fun j hj => by
   rw [far_set far i _ j (by omega)]
   by_cases h : j = i
   ·rw [if_pos h]
   ·rw [if_neg h]; exact hf j (by omega)) hk
/-- The distances of all from one: the program's map and the reference's list. -/
theorem far_both {n : Nat} (hn : 3 ≤ n ∧ n ≤ 8) {s : Nat} (hs : s < (triT n).length) (k : Nat) (hk : 30000 < k) : ∃ C, dstF k (n : Int) (tr n s) = some C ∧ spec_flFar.f k (n : Int) (triT n) (tr n s) = some (farRow n s) ∧ ∀ i, i < (triT n).length → lkC C (dtx (tr n i)) = some ((dec ((farT n).getD s 0) i : Nat) : Int) := by
 have hN := len_tab hn
 obtain ⟨far0, hf0⟩ : ∃ f, f = (List.replicate (triT n).length (-1 : Int)).set s 0 := ⟨_, rfl⟩
 have hc0 : cnt far0 = 1 := by
  rw [hf0]
  unfold cnt
  rw [List.countP_set (by rw [List.length_replicate]; exact hs), List.countP_replicate, List.getElem_replicate]
  simp
 have hg : ∀ i, i < (triT n).length → far0.getD i 0 = if i = s then 0 else -1 := fun i hi => by
  rw [hf0, far_set _ s _ i (by rw [List.length_replicate]; exact hs)]
  by_cases e : i = s
  ·rw [if_pos e, if_pos e]
  ·rw [if_neg e, if_neg e, far_get _ i (by rw [List.length_replicate]; exact hi), List.getElem_replicate]
 have h0 : Inv n far0 [(dtx (tr n s), 0)] [s] := by
  refine ⟨by rw [hf0, List.length_set, List.length_replicate], fun i hi => ?_, by rw [hc0]; rfl, fun v hv => ?_, fun x hx => ?_⟩
  ·rw [hg i hi]
   unfold lkC
   by_cases e : i = s
   ·subst e
    rw [if_pos rfl, if_pos rfl, if_neg (by omega)]
   ·rw [if_neg (fun e2 => e (tr_dtx hn hs hi e2).symm), if_neg e, if_pos (by omega)]
    rfl
  ·rw [hf0] at hv
   rcases List.mem_or_eq_of_mem_set hv with h | h
   ·have := List.eq_of_mem_replicate h; omega
   ·omega
  ·rw [List.mem_singleton.1 hx]
   exact ⟨hs, by rw [hg s hs, if_pos rfl]; omega⟩
 obtain ⟨C, h1, h2, h3⟩ := both_loop hn k (by omega) ((adjT n).length + 1) far0 _ [] [s] h0 (by rw [hc0]; rfl) (by rw [hc0]; simp; omega)
 have hfar : bLoop (adjT n) ((adjT n).length + 1) far0 [s] = farRow n s := by
  rw [← far_ok hn s hs, hf0, ← hN.2.1]
  rfl
 rw [hfar] at h2 h3
 refine ⟨C, ?_, ?_, fun i hi => ?_⟩
 ·obtain ⟨t1, t2⟩ := tr_text hn hs k (by omega)
  unfold dstF
  rw [t1, Option.bind_some, if_pos t2]
  exact h1 k (by omega)
 ·unfold spec_flFar.f
  rw [if_pos (by omega), Int.toNat_natCast, if_pos (by omega), Option.bind_some, List.length_replicate]
  have h := fill_rounds hn hs (triT n).length 0 (k - (triT n).length - 1) (List.replicate (triT n).length 0) (by omega) (by rw [List.length_replicate]) (fun j hj => by omega) (by omega)
  rw [show k - (triT n).length - 1 + (triT n).length + 1 = k by omega] at h
  refine h.trans ?_
  have h4 := h3 (k - (triT n).length - 1) (by omega)
  rw [← hf0]
  exact h4
 ·rw [h2.rel i hi]
  have : (farRow n s).getD i 0 = ((dec ((farT n).getD s 0) i : Nat) : Int) := by
   unfold farRow
   rw [List.getD_eq_getElem?_getD, List.getElem?_map, List.getElem?_range (by omega)]
   rfl
  rw [this, if_neg (by omega)]

def conv38 (x : S40) : S38 := ⟨x.f0, x.f1⟩
theorem toS38_rounds (x0 : List S40) (hl : x0.length ≤ 1048576) (d : Nat) : ∀ (i k : Nat) (x3 : List S38), x3.length = x0.length → i + d = x0.length → d < k →
  laws_toDiagonalS.l0 k x0 x3 (i : Int) = some (x3.take i ++ (x0.drop i).map conv38) := by
 induction d with
 | zero =>
  intro i k x3 h3 hi hk
  obtain ⟨k, rfl⟩ : ∃ m, k = m + 1 := ⟨k - 1, by omega⟩
  simp only [laws_toDiagonalS.l0]
  rw [if_neg (by omega), List.drop_of_length_le (by omega), List.take_of_length_le (by omega), List.map_nil, List.append_nil]
 | succ d ih =>
  intro i k x3 h3 hi hk
  obtain ⟨k, rfl⟩ : ∃ m, k = m + 1 := ⟨k - 1, by omega⟩
  simp only [laws_toDiagonalS.l0, laws_toDiagonal.f, Option.bind_some]
  rw [if_pos (by omega), if_pos (by omega), if_pos (by omega), wrap_succ i (by omega), ih (i + 1) k _ (by rw [List.length_set]; exact h3) (by omega) (by omega), Int.toNat_natCast, take_set_succ _ _ _ (by omega), getD_drop x0 z40 i (by omega), List.map_cons]
  simp [rd_T40, conv38]
theorem toS38_tells (x0 : List S40) (hl : x0.length ≤ 1048576) : Ev (fun k => laws_toDiagonalS.f k x0) (x0.map conv38) := by
 refine ⟨x0.length + 1, fun k hk => ?_⟩
 show laws_toDiagonalS.f k x0 = _
 unfold laws_toDiagonalS.f
 rw [if_pos (by omega), if_pos (by omega), Int.toNat_natCast]
 have h := toS38_rounds x0 hl x0.length 0 k (List.replicate x0.length z38) (by simp) (by omega) (by omega)
 simpa using h
theorem eqS38_rounds (l : List S38) (hl : l.length ≤ 4611686018427387904) (d : Nat) : ∀ (i k : Nat), i + d = l.length → d < k → laws_eqDiagonalS.l0 k l l (i : Int) = some true := by
 induction d with
 | zero =>
  intro i k hi hk
  obtain ⟨k, rfl⟩ : ∃ m, k = m + 1 := ⟨k - 1, by omega⟩
  simp only [laws_eqDiagonalS.l0]
  rw [if_neg (by omega)]
 | succ d ih =>
  intro i k hi hk
  obtain ⟨k, rfl⟩ : ∃ m, k = m + 1 := ⟨k - 1, by omega⟩
  simp only [laws_eqDiagonalS.l0, laws_eqDiagonal.f, if_true, Option.bind_some]
  rw [if_pos (by omega), if_pos (by omega), if_pos (by omega), wrap_succ i (by omega)]
  exact ih (i + 1) k (by omega) (by omega)
theorem eqS38_tells (l : List S38) (hl : l.length ≤ 4611686018427387904) : Ev (fun k => laws_eqDiagonalS.f k l l) true := by
 refine ⟨l.length + 1, fun k hk => ?_⟩
 show laws_eqDiagonalS.f k l l = _
 unfold laws_eqDiagonalS.f
 rw [if_pos rfl]
 exact eqS38_rounds l hl l.length 0 k (by omega) (by omega)
theorem sz38_any (l : List S40) (n : Int) (h0 : 0 ≤ n) (h1 : n ≤ 1048576) (hl : l.length ≤ maxLen) : ∃ r, laws_szDiagonalS.f l n = some r ∧ (r < 0 ∨ (0 ≤ r ∧ r = n - (l.length : Int))) := by
 unfold maxLen at hl
 unfold laws_szDiagonalS.f
 by_cases h : wrap64 (n - (l.length : Int)) < 0
 ·rw [if_pos h]
  exact ⟨_, rfl, .inl (by omega)⟩
 ·rw [if_neg h]
  have w : wrap64 (n - (l.length : Int)) = n - (l.length : Int) := by unfold wrap64 at h ⊢; omega
  exact ⟨_, rfl, .inr ⟨by omega, w⟩⟩

def iota38 : Int → Nat → List S38
 | _, 0 => []
 | v, m + 1 => ⟨v, v + 1⟩ :: iota38 (v + 2) m
theorem mark38_rounds (l : List S38) (hl : l.length ≤ 1048576) (e : Nat) : ∀ (i k : Nat) (P R : List S38) (v0 v : Int), P.length = i → R.length = e → i + e = l.length → 0 ≤ v0 → v0 ≤ 100000000 → v = v0 + 2 * (i : Int) → e < k →
  laws_markDiagonalS.l0 k (P ++ R) v (i : Int) = some (v0 + 2 * (l.length : Int), P ++ iota38 v e) := by
 induction e with
 | zero =>
  intro i k P R v0 v hP hR hi h00 h01 hv hk
  obtain ⟨k, rfl⟩ : ∃ q, k = q + 1 := ⟨k - 1, by omega⟩
  have : R = [] := List.length_eq_zero_iff.1 hR
  subst this
  simp only [laws_markDiagonalS.l0, List.append_nil, iota38]
  rw [if_neg (by omega), hv, show i = l.length by omega]
 | succ e ih =>
  intro i k P R v0 v hP hR hi h00 h01 hv hk
  obtain ⟨k, rfl⟩ : ∃ q, k = q + 1 := ⟨k - 1, by omega⟩
  cases R with
  | nil => simp at hR
  | cons x R =>
   rw [List.length_cons] at hR
   have w1 : wrap64 (v + 1) = v + 1 := by unfold wrap64; omega
   have w2 : wrap64 (v + 1 + 1) = v + 2 := by unfold wrap64; omega
   have s1 : ∀ y z : S38, (P ++ y :: R).set i z = P ++ z :: R := by
    intro y z
    rw [List.set_append_right _ _ (by omega), hP, Nat.sub_self]
    rfl
   have r1 : ∀ y : S38, rd_T38 (P ++ y :: R) (i : Int) = y := by
    intro y
    unfold rd_T38
    rw [Int.toNat_natCast, List.getD_eq_getElem?_getD, ← hP]
    simp
   simp only [laws_markDiagonalS.l0, Int.toNat_natCast, Option.bind_some, s1, r1, w1, w2]
   rw [if_pos (by rw [List.length_append, List.length_cons]; omega), if_pos (by omega), wrap_succ i (by omega)]
   have h := ih (i + 1) k (P ++ [⟨v, v + 1⟩]) R v0 (v + 2) (by rw [List.length_append, List.length_singleton]; omega) (by omega) (by omega) h00 h01 (by omega) (by omega)
   rw [iota38]
   simpa using h
theorem mark38_any (l : List S38) (hl : l.length ≤ 1048576) (v : Int) (h0 : 0 ≤ v) (h1 : v ≤ 100000000) (k : Nat) (hk : l.length < k) : laws_markDiagonalS.f k l v = some (v + 2 * (l.length : Int), iota38 v l.length) := by
 have h := mark38_rounds l hl l.length 0 k [] l v v rfl rfl (by omega) h0 h1 (by omega) hk
 unfold laws_markDiagonalS.f
 simpa using h
theorem mark38_tells (l : List S38) (hl : l.length ≤ 1048576) (k : Nat) (hk : l.length < k) : laws_markDiagonalS.f k l 1 = some (1 + 2 * (l.length : Int), iota38 1 l.length) :=
 mark38_any l hl 1 (by omega) (by omega) k hk

theorem eqI_rounds (l : List Int) (hl : l.length ≤ 1048576) (d : Nat) : ∀ (i k : Nat), i + d = l.length → d < k → laws_eqIntS.l0 k l l (i : Int) = some true := by
 induction d with
 | zero =>
  intro i k hi hk
  obtain ⟨k, rfl⟩ : ∃ m, k = m + 1 := ⟨k - 1, by omega⟩
  simp only [laws_eqIntS.l0]
  rw [if_neg (by omega)]
 | succ d ih =>
  intro i k hi hk
  obtain ⟨k, rfl⟩ : ∃ m, k = m + 1 := ⟨k - 1, by omega⟩
  simp only [laws_eqIntS.l0, if_true]
  rw [if_pos (by omega), if_pos (by omega), if_pos (by omega), wrap_succ i (by omega)]
  exact ih (i + 1) k (by omega) (by omega)
theorem eqI_tells (l : List Int) (hl : l.length ≤ 1048576) (k : Nat) (hk : l.length < k) : laws_eqIntS.f k l l = some true := by
 unfold laws_eqIntS.f
 rw [if_pos rfl]
 exact eqI_rounds l hl l.length 0 k (by omega) hk
def iotaI : Int → Nat → List Int
 | _, 0 => []
 | v, m + 1 => v :: iotaI (v + 1) m
theorem iotaI_len : ∀ (m : Nat) (v : Int), (iotaI v m).length = m
 | 0, _ => rfl
 | m + 1, v => by rw [iotaI, List.length_cons, iotaI_len m]
theorem markI_rounds (L : Nat) (hl : L ≤ 1048576) (e : Nat) : ∀ (i k : Nat) (P R : List Int) (v : Int), P.length = i → R.length = e → i + e = L → v = 1 + (i : Int) → e < k →
  laws_markIntS.l0 k (P ++ R) v (i : Int) = some (1 + (L : Int), P ++ iotaI v e) := by
 induction e with
 | zero =>
  intro i k P R v hP hR hi hv hk
  obtain ⟨k, rfl⟩ : ∃ q, k = q + 1 := ⟨k - 1, by omega⟩
  have : R = [] := List.length_eq_zero_iff.1 hR
  subst this
  simp only [laws_markIntS.l0, List.append_nil, iotaI]
  rw [if_neg (by omega), hv, show i = L by omega]
 | succ e ih =>
  intro i k P R v hP hR hi hv hk
  obtain ⟨k, rfl⟩ : ∃ q, k = q + 1 := ⟨k - 1, by omega⟩
  cases R with
  | nil => simp at hR
  | cons x R =>
   rw [List.length_cons] at hR
   have w1 : wrap64 (v + 1) = v + 1 := by unfold wrap64; omega
   have s1 : ∀ y z : Int, (P ++ y :: R).set i z = P ++ z :: R := by
    intro y z
    rw [List.set_append_right _ _ (by omega), hP, Nat.sub_self]
    rfl
   simp only [laws_markIntS.l0, Int.toNat_natCast, s1, w1]
   rw [if_pos (by rw [List.length_append, List.length_cons]; omega), if_pos (by omega), wrap_succ i (by omega)]
   have h := ih (i + 1) k (P ++ [v]) R (v + 1) (by rw [List.length_append, List.length_singleton]; omega) (by omega) (by omega) (by omega) (by omega)
   rw [iotaI]
   simpa using h
theorem markI_tells (l : List Int) (hl : l.length ≤ 1048576) (k : Nat) (hk : l.length < k) : laws_markIntS.f k l 1 = some (1 + (l.length : Int), iotaI 1 l.length) := by
 have h := markI_rounds l.length hl l.length 0 k [] l 1 rfl rfl (by omega) (by omega) hk
 unfold laws_markIntS.f
 simpa using h

theorem heldI_rounds (L : Nat) (hl : L ≤ 1048576) (e : Nat) : ∀ (i k : Nat) (P : List Int) (v : Int), P.length = i → i + e = L → v = 1 + (i : Int) → e < k →
  laws_heldIntS.l0 k (P ++ iotaI v e) v (i : Int) = some (1 + (L : Int)) := by
 induction e with
 | zero =>
  intro i k P v hP hi hv hk
  obtain ⟨k, rfl⟩ : ∃ q, k = q + 1 := ⟨k - 1, by omega⟩
  simp only [laws_heldIntS.l0, iotaI, List.append_nil]
  rw [if_neg (by omega), hv, show i = L by omega]
 | succ e ih =>
  intro i k P v hP hi hv hk
  obtain ⟨k, rfl⟩ : ∃ q, k = q + 1 := ⟨k - 1, by omega⟩
  have w1 : wrap64 (v + 1) = v + 1 := by unfold wrap64; omega
  have r1 : rd (P ++ iotaI v (e + 1)) (i : Int) = v := by
   unfold rd
   rw [Int.toNat_natCast, List.getD_eq_getElem?_getD, ← hP, iotaI]
   simp
  simp only [laws_heldIntS.l0, r1, w1, if_true]
  rw [if_pos (by rw [List.length_append, iotaI_len]; omega), if_pos (by omega), wrap_succ i (by omega)]
  have h := ih (i + 1) k (P ++ [v]) (v + 1) (by rw [List.length_append, List.length_singleton]; omega) (by omega) (by omega) (by omega)
  rw [iotaI]
  simpa using h
theorem heldI_tells (L : Nat) (hl : L ≤ 1048576) (k : Nat) (hk : L < k) : laws_heldIntS.f k (iotaI 1 L) 1 = some (1 + (L : Int)) := by
 have h := heldI_rounds L hl L 0 k [] 1 rfl (by omega) (by omega) hk
 unfold laws_heldIntS.f
 simpa using h

theorem far_len (n s : Nat) : (farRow n s).length = (adjT n).length := by unfold farRow; rw [List.length_map, List.length_range]
theorem far_val {n s i : Nat} (hi : i < (adjT n).length) : (farRow n s).getD i 0 = ((dec ((farT n).getD s 0) i : Nat) : Int) := by
 unfold farRow
 rw [List.getD_eq_getElem?_getD, List.getElem?_map, List.getElem?_range hi]
 rfl
def dv (n s i : Nat) : Int := ((dec ((farT n).getD s 0) i : Nat) : Int)
theorem dv_small (n s i : Nat) : 0 ≤ dv n s i ∧ dv n s i ≤ 15 := by
 unfold dv dec
 have := Nat.mod_lt ((farT n).getD s 0 / 16 ^ i) (show 0 < 16 by omega)
 omega
theorem far_vals {n s i : Nat} (hi : i < (adjT n).length) : rd (farRow n s) (i : Int) = dv n s i := by
 rw [rd_far]
 exact far_val hi
theorem grow_len (out : List Int) (x : Int) (h : 0 ≤ x) : ((grow0 out x).length : Int) = max (out.length : Int) (x + 1) := by
 unfold grow0
 rw [List.length_append, List.length_replicate]
 omega
theorem far_step {n s i : Nat} (hi : i < (triT n).length) (hL : (adjT n).length = (triT n).length) : (triT n).drop i = tr n i :: (triT n).drop (i + 1) ∧ (farRow n s).drop i = dv n s i :: (farRow n s).drop (i + 1) := by
 refine ⟨by rw [List.drop_eq_getElem_cons hi, tr_get hi], ?_⟩
 rw [getD_drop _ 0 i (by rw [far_len]; omega), far_val (by omega)]
 rfl
theorem growc_eq (out : List Int) (x : Int) : growc out x = grow0 out x := rfl
theorem cb_go {n : Nat} (hn : 3 ≤ n ∧ n ≤ 8) {s : Nat} (k : Nat) (hk : 30000 < k) {C : List (ByteArray × Int)} (hC : ∀ i, i < (triT n).length → lkC C (dtx (tr n i)) = some (dv n s i)) : ∀ (e i best : Nat) (out : List Int), i + e = (triT n).length → best < (triT n).length → (out.length : Int) = dv n s best + 1 →
  ∃ (out' : List Int) (best' : Nat), lyGo (farRow n s) ((farRow n s).drop i) i out best = some (out', (best' : Int)) ∧ cbIn k C ((triT n).drop i) out = some out' ∧ best' < (triT n).length ∧ (out'.length : Int) = dv n s best' + 1 := by
 have hL := (len_tab hn).2.1
 intro e
 induction e with
 | zero =>
  intro i best out hi hb ho
  rw [List.drop_of_length_le (show (triT n).length ≤ i by omega), List.drop_of_length_le (show (farRow n s).length ≤ i by rw [far_len]; omega)]
  exact ⟨out, best, rfl, rfl, hb, ho⟩
 | succ e ih =>
  intro i best out hi hb ho
  have hi' : i < (triT n).length := by omega
  obtain ⟨hd, hf⟩ := far_step (s := s) hi' hL
  have b1 := dv_small n s best
  have b2 := dv_small n s i
  have hgl := grow_len out (dv n s i) b2.1
  obtain ⟨t1, t2⟩ := tr_text hn hi' k (by omega)
  rw [hd, hf]
  unfold lyGo cbIn
  rw [t1, Option.bind_some, if_pos t2, hC i hi', Option.getD_some, if_pos ⟨⟨b2.1, by omega⟩, by omega, by rw [far_len]; omega⟩, far_vals (by omega), growc_eq]
  by_cases h : dv n s best < dv n s i
  ·rw [if_pos h, if_pos ⟨⟨b2.1, by omega⟩, by omega⟩]
   exact ih (i + 1) i _ (by omega) hi' (by rw [List.length_set, hgl]; omega)
  ·rw [if_neg h, if_pos ⟨⟨b2.1, by omega⟩, by omega⟩]
   exact ih (i + 1) best _ (by omega) hb (by rw [List.length_set, hgl]; omega)
theorem cb_start {n : Nat} (hn : 3 ≤ n ∧ n ≤ 8) {s : Nat} (k : Nat) (hk : 30000 < k) {C : List (ByteArray × Int)} (hC : ∀ i, i < (triT n).length → lkC C (dtx (tr n i)) = some (dv n s i)) :
  ∃ (out' : List Int) (best' : Nat), lyGo (farRow n s) (farRow n s) 0 [] 0 = some (out', (best' : Int)) ∧ cbIn k C (triT n) [] = some out' ∧ best' < (triT n).length ∧ (out'.length : Int) = dv n s best' + 1 := by
 have hL := len_tab hn
 have h0 : 0 < (triT n).length := by omega
 obtain ⟨hd, hf⟩ := far_step (s := s) h0 hL.2.1
 rw [List.drop_zero] at hd hf
 have b2 := dv_small n s 0
 have hgl := grow_len [] (dv n s 0) b2.1
 obtain ⟨t1, t2⟩ := tr_text hn h0 k (by omega)
 obtain ⟨out', best', h1, h2, h3⟩ := cb_go hn k hk hC ((triT n).length - 1) 1 0 (((grow0 [] (dv n s 0)).set (dv n s 0).toNat (wrap64 (rd (grow0 [] (dv n s 0)) (dv n s 0) + 1)))) (by omega) h0 (by rw [List.length_set, hgl]; simp; omega)
 refine ⟨out', best', ?_, ?_, h3⟩
 ·have hrow : lyGo (farRow n s) (dv n s 0 :: (farRow n s).drop 1) 0 [] 0 = lyGo (farRow n s) ((farRow n s).drop 1) 1 (((grow0 [] (dv n s 0)).set (dv n s 0).toNat (wrap64 (rd (grow0 [] (dv n s 0)) (dv n s 0) + 1)))) 0 := by
   have hz := far_vals (n := n) (s := s) (i := 0) (by omega)
   simp only [lyGo]
   rw [if_pos ⟨⟨b2.1, by omega⟩, by simp, by rw [far_len]; omega⟩, hz, if_neg (by omega)]
  have hf' : farRow n s = dv n s 0 :: (farRow n s).drop 1 := hf
  rw [← hf'] at hrow
  exact hrow.trans h1
 ·rw [hd]
  unfold cbIn
  rw [t1, Option.bind_some, if_pos t2, hC 0 h0, Option.getD_some, if_pos ⟨⟨b2.1, by omega⟩, by simp⟩, growc_eq]
  exact h2
theorem both (n : Int) (a : List DG) (ha : a.length ≤ 1048576) : ∃ (K : Nat) (r : List Int) (ok : Bool), r.length ≤ 1048576 ∧ ∀ k, K ≤ k → spec_CountByFlips.f k n a = some (r, ok) ∧ impl_CountByFlips.f k n a = some (r, ok) := by
 obtain ⟨K, e1, e2⟩ := Ev.at2 (poGood_tells n a (by omega)) (isTri_tells n a (by omega))
 have e1 : ∀ k, K ≤ k → spec_poGood.f k n a = some (isTriB n a) := fun k hk => by rw [show k = K + (k - K) by omega]; exact e1 _
 have e2 : ∀ k, K ≤ k → impl_IsTriangulation.f k n a = some (isTriB n a) := fun k hk => by rw [show k = K + (k - K) by omega]; exact e2 _
 by_cases h : isTriB n a = true ∧ n ≤ 8
 ·obtain ⟨h1, h8⟩ := h
  have Ta := tri_of n a h1
  have h3 := Ta.n3
  obtain ⟨N, rfl⟩ : ∃ N : Nat, n = N := ⟨n.toNat, by omega⟩
  have hn : 3 ≤ N ∧ N ≤ 8 := by omega
  have hL := len_tab hn
  obtain ⟨i, hi, rfl⟩ := tr_at hn Ta
  obtain ⟨C0, _, _, g2⟩ := far_both hn hi 40000 (by omega)
  obtain ⟨out, best, q1, _, q3, q4⟩ := cb_start hn 40000 (by omega) g2
  have b1 := dv_small N i best
  refine ⟨40000 + K, out, true, by omega, fun k hk => ⟨?_, ?_⟩⟩
  ·obtain ⟨_, _, f2, _⟩ := far_both hn hi k (by omega)
   simp only [spec_CountByFlips.f, spec_flSmall.f, spec_flLayers.f]
   rw [if_pos h8, e1 _ (by omega), Option.bind_some, Option.bind_some, h1, if_pos rfl, poAll_tells _ (by omega), Option.bind_some, tri_tab hn, f2, Option.bind_some, if_pos (by rw [far_len]; omega), q1, Option.bind_some]
  ·obtain ⟨C, f1, _, f3⟩ := far_both hn hi k (by omega)
   obtain ⟨out', best', p1, p2, p3, _⟩ := cb_start hn k (by omega) f3
   have e := q1.symm.trans p1
   injection e with e
   injection e with e _
   subst e
   simp only [impl_CountByFlips.f, impl_isNear.f]
   rw [e2 _ (by omega), Option.bind_some, h1, if_pos rfl, Option.bind_some, if_pos (decide_eq_true h8), f1, Option.bind_some, allTri_tells _ (by omega) k (by omega), Option.bind_some, tri_tab hn, if_pos (by omega), p2]
   rfl
 ·refine ⟨K, [], false, by simp, fun k hk => ?_⟩
  constructor
  ·simp only [spec_CountByFlips.f, spec_flSmall.f, e1 _ hk, Option.bind_some]
   by_cases h8 : n ≤ 8
   ·cases ea : isTriB n a
    ·simp [h8]
    ·exact absurd ⟨ea, h8⟩ h
   ·simp [h8]
  ·simp only [impl_CountByFlips.f, impl_isNear.f, e2 _ hk, Option.bind_some]
   cases ea : isTriB n a
   ·simp
   ·have h8 : ¬ n ≤ 8 := fun h8 => h ⟨ea, h8⟩
    simp [h8]

theorem FnExactCountByFlips (n : Int) (l : List S40) (_ : (Lit.int .i64 n).wf = true) (hm_l : l.length ≤ maxLen) (_ : ∀ y ∈ l, (Lit.int .i64 y.f0).wf = true ∧ (Lit.int .i64 y.f1).wf = true) :
  ∃ k, laws_FnExactCountByFlips.f k n l = some true := by
 obtain ⟨q0, hr0, hz0⟩ := sz38_any l 1048576 (by omega) (by omega) hm_l
 rcases hz0 with hz0 | ⟨hz0, hy0⟩
 ·refine ⟨0, ?_⟩
  unfold laws_FnExactCountByFlips.f
  rw [hr0, Option.bind_some, if_pos hz0]
 ·
  obtain ⟨Cl, hCl⟩ : ∃ C, C = l.map conv38 := ⟨_, rfl⟩
  have hcl : Cl.length ≤ 1048576 := by rw [hCl, List.length_map]; omega
  obtain ⟨K1, r, ok, hrl, hb⟩ := both n Cl hcl
  obtain ⟨K2, e0, e1⟩ := Ev.at2 (toS38_tells l (by omega)) (eqS38_tells Cl (by omega))
  simp only [← hCl] at e0
  obtain ⟨K3, hK3⟩ : ∃ K3 : Nat, K3 = 0 := ⟨_, rfl⟩
  obtain ⟨M, hM⟩ : ∃ M, M = K1 + (K2 + (K3 + (Cl.length + r.length + 1000))) := ⟨_, rfl⟩
  have b1 : ∀ j, spec_CountByFlips.f (M + j) n Cl = some (r, ok) := fun j => (hb (M + j) (by omega)).1
  have b2 : ∀ j, impl_CountByFlips.f (M + j) n Cl = some (r, ok) := fun j => (hb (M + j) (by omega)).2
  have t0 : ∀ j, laws_toDiagonalS.f (M + j) l = some Cl := fun j => by rw [show M + j = K2 + (M + j - K2) by omega]; exact e0 _
  have c0 : ∀ j, laws_eqDiagonalS.f (M + j) Cl Cl = some true := fun j => by rw [show M + j = K2 + (M + j - K2) by omega]; exact e1 _
  have m0 : ∀ j, laws_markDiagonalS.f (M + j) Cl 1 = _ := fun j => mark38_tells Cl hcl (M + j) (by omega)
  have er : ∀ j, laws_eqIntS.f (M + j) r r = some true := fun j => eqI_tells r hrl (M + j) (by omega)
  have mr : ∀ j, laws_markIntS.f (M + j) r 1 = _ := fun j => markI_tells r hrl (M + j) (by omega)
  have hd : ∀ j, laws_heldIntS.f (M + j) (iotaI 1 r.length) 1 = _ := fun j => heldI_tells r.length hrl (M + j) (by omega)
  have j2 : laws_FnExactCountByFlips.j2 (M + 2) (iotaI 1 r.length) (1 + (r.length : Int)) false = some true := by
   simp only [laws_FnExactCountByFlips.j2, hd, Option.bind_some, Bool.false_eq_true, if_false, if_true]
   rw [if_neg (by omega)]
  have j1 : laws_FnExactCountByFlips.j1 (M + 3) n l r ok r false = some true := by
   simp only [laws_FnExactCountByFlips.j1, mr, hd, t0, b2, er, Option.bind_some, Bool.false_eq_true, if_false, if_true]
   rw [if_neg (by omega), bne_self_eq_false]
   exact j2
  have j0 : laws_FnExactCountByFlips.j0 (M + 4) n l r ok Cl r ok false = some true := by
   simp only [laws_FnExactCountByFlips.j0, t0, c0, er, m0, Option.bind_some, Bool.false_eq_true, if_false, if_true]
   rw [if_neg (by omega), bne_self_eq_false]
   exact j1
  refine ⟨M + 4, ?_⟩
  simp only [laws_FnExactCountByFlips.f, hr0, Option.bind_some, b1, b2, t0, er, if_true]
  rw [if_neg (by omega), bne_self_eq_false]
  exact j0

end Go.Proofs.YtgblginphicacaaGreatDoor.PureFnExactCountByFlips
