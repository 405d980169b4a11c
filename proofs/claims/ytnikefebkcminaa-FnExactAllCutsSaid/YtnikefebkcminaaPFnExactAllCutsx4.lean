-- WRITTEN BY A PROGRAM OF THIS WORK (wip/tools/ppatch.py) for this claim.
import Derived.Test.YtnikefebkcminaaPFnExactAllCutsx0
import Derived.Test.YtnikefebkcminaaPFnExactAllCutsx2
import Derived.Test.YtnikefebkcminaaPFnExactAllCutsx3
namespace Go.Proofs.Ytnikefebkcminaa.PFnExactAllCuts
open Go.RowKit Go.Proofs.YtnikefebkcminaaW.PrintWords Go.Proofs.YtnikefebkcminaaW.PrintLast Go.Proofs.YtnikefebkcminaaW.PrintMore
attribute [local go_sem] max2_int min2_int max_two min_two max_three min_three max_four min_four   -- for this text's walks alone
set_option linter.unusedVariables false
set_option linter.unusedSimpArgs false

/-! ### impl_AllCuts: function 42 -/

def idxOf {α : Type} (p : α → Bool) : List α → Nat → Int
 | [], _ => -1
 | x :: l, i => if p x = true then (i : Int) else idxOf p l (i + 1)
theorem idxOf_nonneg {α : Type} (p : α → Bool) (l : List α) : ∀ i : Nat, 0 ≤ idxOf p l i ↔ l.any p = true := by
 induction l with
 | nil => intro i; simp [idxOf]
 | cons x l ih =>
  intro i
  rw [List.any_cons]
  unfold idxOf
  by_cases h : p x = true
  ·rw [if_pos h, h]
   simp
  ·rw [if_neg h, Bool.eq_false_iff.mpr h, Bool.false_or]
   exact ih _
theorem idxOf_any {α : Type} (p : α → Bool) (l : List α) (i : Nat) : decide (idxOf p l i ≥ 0) = l.any p := by
 rw [Bool.eq_iff_iff, decide_eq_true_iff]
 exact idxOf_nonneg p l i
theorem idxOf_step {α : Type} (p : α → Bool) (d : α) (l : List α) (i : Nat) (h : i < l.length) : idxOf p (l.drop i) i = if p (l.getD i d) = true then (i : Int) else idxOf p (l.drop (i + 1)) (i + 1) := by
 rw [List.drop_eq_getElem_cons h, List.getD_eq_getElem?_getD, List.getElem?_eq_getElem h]
 rfl

set_option maxHeartbeats 2000000 in
theorem IndexFuncM72 (p : S72 → Bool) (g : Nat) (lb : Array Value) (eg : ∀ args w, (callFunc g args).run Try.prog w = .ok (.enter g args) w) (A0 : Option Addr) (c0 : Nat) (l0 : List S72) (w : World) (hr0 : Kd.C k72 w A0 l0.length l0)
  (hp : ∀ (W : World) (x : S72), x ∈ l0 → Below w.heap.size w W → Calls Try.prog g (#[.agg #[.int .i64 x.f0, .int .i64 x.f1]] ++ lb) W fun e w' => e = .returned (.bool (p x)) ∧ Below W.heap.size W w') :
  Calls Try.prog 101 #[.slice A0 l0.length c0, .func (.func g) #[] lb] w fun e w' => e = .returned (.int .i64 (idxOf p l0 0)) ∧ Below w.heap.size w w' := by
 have hbig : l0.length ≤ 9223372036854775807 := hr0.2.1
 have HR0 := Aside0.mk hr0
 have HP := Aside0.mk hp
 clear hr0 hp
 go_enter Try.func101, Try.ntmps101
 go_wp2
 go_loopg [5, 8] l0.length (fun gg _ s8 wr => ∃ i : Nat, i ≤ l0.length ∧ l0.length - i ≤ gg ∧ s8 = .int .i64 i ∧ Aside0 (idxOf p l0 0 = idxOf p (l0.drop i) i) ∧ Aside0 (Below w.heap.size w wr))
 case atStart => exact ⟨0, Nat.zero_le _, by omega, rfl, ⟨by rw [List.drop_zero]⟩, ⟨Below.refl _ w⟩⟩
 case round =>
  obtain ⟨i, hi, hg, rfl, HX, HB⟩ := hrel
  by_cases hlt : i < l0.length
  ·have p0 : (0 : Int) ≤ (i : Int) := by omega
   have q0 : (i : Int) < (l0.length : Int) := by omega
   obtain ⟨ad, rfl, h0, h1⟩ := at_T72 (Kd.C_below HR0.out HB.out) (i : Int) p0 q0
   simp only [Int.toNat_natCast] at h0 h1
   have hstep := idxOf_step p z72 l0 i hlt
   have hmem : rd_T72 l0 (i : Int) ∈ l0 := by
    unfold rd_T72
    rw [Int.toNat_natCast, List.getD_eq_getElem?_getD, List.getElem?_eq_getElem hlt]
    exact List.getElem_mem _
   have hcall := HP.out wr (rd_T72 l0 (i : Int)) hmem HB.out
   clear hmem
   have erd : rd_T72 l0 (i : Int) = l0.getD i z72 := by unfold rd_T72; rw [Int.toNat_natCast]
   rw [← erd] at hstep
   clear erd
   generalize rd_T72 l0 (i : Int) = x at h0 h1 hstep hcall
   cases hq : p x with
   | true =>
    rw [hq] at hcall hstep
    have HC := Lib.hid hcall
    have HS := Lib.hid hstep
    clear hcall hstep hq
    go_wp2_with (go_at_fn g; refine HC.out.mono ?_; rintro e w' ⟨rfl, hb'⟩)
    go_ret
    exact ⟨by rw [HX.out, HS.out]; rfl, HB.out.trans (hb'.mono (below_size HB.out))⟩
   | false =>
    rw [hq] at hcall hstep
    have HC := Lib.hid hcall
    have HS := Lib.hid hstep
    clear hcall hstep hq
    go_wp2_with (go_at_fn g; refine HC.out.mono ?_; rintro e w' ⟨rfl, hb'⟩)
    go_roundg (l0.length - (i + 1))
    case measure => omega
    case rel => exact ⟨i + 1, by omega, by omega, by go_num, ⟨by rw [HX.out, HS.out]; rfl⟩, ⟨HB.out.trans (hb'.mono (below_size HB.out))⟩⟩
  ·have hltz : ¬ (i : Int) < (l0.length : Int) := by omega
   go_wp2
   go_ret
   exact ⟨by rw [HX.out, List.drop_of_length_le (by omega)]; rfl, HB.out⟩

set_option maxHeartbeats 2000000 in
theorem ContainsFuncM72 (p : S72 → Bool) (g : Nat) (lb : Array Value) (eg : ∀ args w, (callFunc g args).run Try.prog w = .ok (.enter g args) w) (A0 : Option Addr) (c0 : Nat) (l0 : List S72) (w : World) (hr0 : Kd.C k72 w A0 l0.length l0)
  (hp : ∀ (W : World) (x : S72), x ∈ l0 → Below w.heap.size w W → Calls Try.prog g (#[.agg #[.int .i64 x.f0, .int .i64 x.f1]] ++ lb) W fun e w' => e = .returned (.bool (p x)) ∧ Below W.heap.size W w') :
  Calls Try.prog 95 #[.slice A0 l0.length c0, .func (.func g) #[] lb] w fun e w' => e = .returned (.bool (l0.any p)) ∧ Below w.heap.size w w' := by
 have HC := Aside0.mk (IndexFuncM72 p g lb eg A0 c0 l0 w hr0 hp)
 have ha := idxOf_any p l0 0
 clear hr0 hp
 have HA := Aside0.mk ha
 clear ha
 go_enter Try.func95, Try.ntmps95
 go_wp2_with (go_at_call 101; refine HC.out.mono ?_; rintro e w1 ⟨rfl, hb⟩; have HB := Aside0.mk hb; clear hb)
 go_ret
 exact ⟨by rw [← HA.out]; rfl, HB.out⟩

theorem doCross_is (d e : S72) : impl_doCross.f d.f0 d.f1 e.f0 e.f1 = some (crossP d e) := by
 unfold impl_doCross.f crossP
 repeat' split
 all_goals (congr 1; rw [Bool.eq_iff_iff]; simp only [Bool.or_eq_true, decide_eq_true_eq, Bool.false_eq_true, iff_false, iff_true, true_iff, false_iff]; omega)
theorem gr_info : (Try.prog.info? 30).map (fun i => (i.zero, i.size, i.bytes)) = some (some (.slice none 0 0), 1, 24) := by kernel_rfl
def visit.T0 : Bool × List (List Nat × List Nat) := (true, [([], []), ([], []), ([1], [1]), ([2], [2]), ([0, 3, 2], [0, 3]), ([4, 4, 0, 1, 2, 3, 4], [4])])
def visit.B0 : List Nat := [0, 0, 2, 6, 15, 31]
theorem visit.tab0 : rtab .any (opsOf Try.f84 0) = visit.T0 := by kernel_rfl
theorem visit.bits0 : waitsOk visit.T0.2 visit.B0 = true := by kernel_rfl
def cuts.T6 : Bool × List (List Nat × List Nat) := (true, [([], []), ([], []), ([], []), ([2], [2]), ([], []), ([4], [4]), ([1, 3, 5], [1, 3, 5]), ([], []), ([], []), ([7, 8], [7, 8]), ([9], [9]), ([10], [10]), ([6, 11], [6, 11]), ([], []), ([13], [13]), ([], []), ([15], [15]), ([], []), ([0, 12, 14, 16, 17, 12], [0, 12, 14, 16, 17])])
def cuts.B6 : List Nat := [0, 0, 0, 4, 0, 16, 62, 0, 0, 384, 896, 1920, 4094, 0, 8192, 0, 32768, 0, 262143]
theorem cuts.tab6 : rtab .any (opsOf Try.f82 6) = cuts.T6 := by kernel_rfl
theorem cuts.bits6 : waitsOk cuts.T6.2 cuts.B6 = true := by kernel_rfl
/-- The cells of a list of pairs. -/
def cellsOf (l : List S72) : List Value := l.flatMap fun x => [.int .i64 x.f0, .int .i64 x.f1]
theorem cellsOf_len (l : List S72) : (cellsOf l).length = l.length * 2 := by
 unfold cellsOf
 induction l with
 | nil => rfl
 | cons x r ih =>
  rw [List.flatMap_cons, List.length_append, ih, List.length_cons]
  simp only [List.length_cons, List.length_nil]
  omega
theorem cellsOf_reps {W : World} {base : Nat} {ok : Nat → Prop} (l : List S72) : Reps (k72.M W base ok) 2 l (cellsOf l) := by
 induction l with
 | nil => exact Reps.none _ _
 | cons x r ih => exact Reps.c2 (k72_mkM _ _ _ x) ih
theorem cellsOf_get (l : List S72) : ∀ (j : Nat) (u : Value), (cellsOf l)[j]? = some u → ∃ x, l[j / 2]? = some x ∧ [Value.int .i64 x.f0, .int .i64 x.f1][j % 2]? = some u := by
 induction l with
 | nil => intro j u h; simp [cellsOf] at h
 | cons x r ih =>
  intro j u h
  have e : cellsOf (x :: r) = .int .i64 x.f0 :: .int .i64 x.f1 :: cellsOf r := rfl
  rw [e] at h
  match j with
  | 0 => exact ⟨x, rfl, h⟩
  | 1 => exact ⟨x, rfl, h⟩
  | j + 2 =>
   rw [List.getElem?_cons_succ, List.getElem?_cons_succ] at h
   obtain ⟨y, h1, h2⟩ := ih j u h
   refine ⟨y, ?_, ?_⟩
   ·rw [show (j + 2) / 2 = j / 2 + 1 by omega, List.getElem?_cons_succ]
    exact h1
   ·rw [show (j + 2) % 2 = j % 2 by omega]
    exact h2
theorem cut3 (A1 : Option Addr) (m c1 : Nat) (hc : m ≤ c1) (hs : m ≤ 1000) : ∀ W : World, (Instr.slice 30 (.slice A1 m c1) none (some (.int .i64 (m : Int))) (some (.int .i64 (m : Int)))).run Try.prog W = .ok (.slice A1 m m) W := by
 intro W
 have hu := Try.underlying30
 go_simp
/-- What is read, as cells in line. -/
theorem cellsOf_at {w : World} {ad : Addr} {l : List S72} (h : Kd.C k72 w (some ad) l.length l) (j : Nat) (u : Value) (hj : (cellsOf l)[j]? = some u) : w.cell? (ad.add j) = some u := by
 obtain ⟨x, h1, h2⟩ := cellsOf_get l j u hj
 have hl := (List.getElem?_eq_some_iff.1 h1).1
 obtain ⟨ad', e, hc⟩ := h.2.2 (by omega)
 injection e with e
 subst e
 obtain ⟨c, hs, hr, hcell⟩ := hc (j / 2) x h1
 obtain rfl := k72_open hr
 have h3 := hcell (j % 2) u h2
 rw [show j / 2 * k72.sz + j % 2 = j from by show j / 2 * 2 + j % 2 = j; omega] at h3
 exact h3
set_option maxHeartbeats 4000000 in
set_option maxRecDepth 100000 in
theorem crossLit_calls (e x : S72) (gx : Nat) (w : World) (hx : w.heap[gx]? = some (.cells #[.int .i64 x.f0, .int .i64 x.f1] 72 (0, 0))) :
  Calls Try.prog 96 (#[.agg #[.int .i64 e.f0, .int .i64 e.f1]] ++ #[.pointer (some ⟨gx, 0, none⟩)]) w fun e' w' => e' = .returned (.bool (crossP x e)) ∧ Below w.heap.size w w' := by
 have HX := Aside0.mk hx
 clear hx
 show Calls Try.prog 96 #[.agg #[.int .i64 e.f0, .int .i64 e.f1], .pointer (some ⟨gx, 0, none⟩)] w _
 go_enter Try.func96, Try.ntmps96
 go_wp2_with (first
  | ((with_reducible refine gate_dst (N := 2) rfl ?_); refine box_event ?hg (N := 2) ?hd (cs := #[.int .i64 e.f0, .int .i64 e.f1]) (t := 72) ?hr ?_; (case hd => rfl); (case hg => rfl); (case hr => first | (go_simp; done) | (go_simp; rfl)); intro ge hg_ w3 hbox_ hb_; have HB3 := Aside0.mk hb_; have h0 : w3.cell? ⟨gx, 0, none⟩ = some (.int .i64 x.f0) := (blk_cell ((hb_.block gx (blk_lt HX.out)).trans HX.out) 0).trans rfl; have h1 : w3.cell? ⟨gx, 1, none⟩ = some (.int .i64 x.f1) := (blk_cell ((hb_.block gx (blk_lt HX.out)).trans HX.out) 1).trans rfl; have h2 : w3.cell? ⟨ge, 0, none⟩ = some (.int .i64 e.f0) := (blk_cell hbox_ 0).trans rfl; have h3 : w3.cell? ⟨ge, 1, none⟩ = some (.int .i64 e.f1) := (blk_cell hbox_ 1).trans rfl; clear hbox_ hb_ hg_)
  | (go_at_call 70; refine (impl_doCross.calls x.f0 x.f1 e.f0 e.f1 (crossP x e) _ (doCross_is x e)).mono ?_; rintro e1 w4 ⟨rfl, hb4⟩; have HB4 := Aside0.mk (show Below w3.heap.size w3 w4 from by first | exact hb4 | exact Drawn0.below hb4); clear hb4))
 go_ret
 exact ⟨rfl, below_then HB3.out (below_size HB3.out) HB4.out⟩
theorem crosses_calls (x : S72) (A0 : Option Addr) (c0 : Nat) (b : List S72) (w : World) (hC : Kd.C k72 w A0 b.length b) :
  Calls Try.prog 66 #[.slice A0 b.length c0, .agg #[.int .i64 x.f0, .int .i64 x.f1]] w fun e' w' => e' = .returned (.bool (b.any (crossP x))) ∧ Below w.heap.size w w' := by
 have HC := Aside0.mk hC
 clear hC
 go_enter Try.func66, Try.ntmps66
 go_wp2_with (first
  | ((with_reducible refine gate_dst (N := 3) rfl ?_); refine box_event ?hg (N := 3) ?hd (cs := #[.int .i64 x.f0, .int .i64 x.f1]) (t := 72) ?hr ?_; (case hd => rfl); (case hg => rfl); (case hr => first | (go_simp; done) | (go_simp; rfl)); intro gx hg_ w3 hbox_ hb_; have HX3 := Aside0.mk hbox_; have HB3 := Aside0.mk hb_; have HCF := Aside0.mk (ContainsFuncM72 (crossP x) 96 #[.pointer (some ⟨gx, 0, none⟩)] (enters_of Try.func96 (by kernel_rfl) rfl) A0 c0 b w3 (Kd.C_below HC.out hb_) (fun W e _ hW => crossLit_calls e x gx W ((hW.block _ (blk_lt hbox_)).trans hbox_))); clear hbox_ hb_ hg_)
  | (go_at_call 95; refine HCF.out.mono ?_; rintro e1 w4 ⟨rfl, hb4⟩; have HB4 := Aside0.mk hb4; clear hb4))
 go_ret
 exact ⟨rfl, below_then HB3.out (below_size HB3.out) HB4.out⟩
set_option maxHeartbeats 8000000 in
set_option maxRecDepth 100000 in
theorem visit_calls (b : List S72) (A1 : Option Addr) (c1 go : Nat) (v : Value) (xs : List (List S72)) (w0 w : World) (hc1 : b.length ≤ c1) (hsum : b.length ≤ 1000) (hmax : xs.length + 1 ≤ 1099511627776) (hr2 : LkR go w v A1 b) (hL : Lk w0 go w v xs) :
  Calls Try.prog 84 (#[.slice A1 b.length c1] ++ #[.pointer (some ⟨go, 0, none⟩)]) w (LkPost w0 go w v (xs ++ [b])) := by
 show Calls Try.prog 84 #[.slice A1 b.length c1, .pointer (some ⟨go, 0, none⟩)] w _
 have HN := Aside0.mk hsum
 have HM := Aside0.mk hmax
 have HC1 := Aside0.mk hc1
 have HL0 := Aside0.mk hL
 have HR0 := Aside0.mk hr2
 clear hr2 hL hsum hmax hc1
 go_enter Try.func84, Try.ntmps84
 try go_wp2
 have HB0 := Aside0.mk (below_drew (Below.refl w.heap.size w))
 have HL := Aside0.mk (Lk.below HL0.out HB0.out)
 have HT := Aside0.mk (LkTo.below (LkTo.refl go w v) HB0.out)
 have HR2 := Aside0.mk (LkR.below HR0.out HB0.out)
 have HX := Aside0.mk ((blk_cell HL.out.box 0).trans rfl : w.drew.cell? ⟨go, 0, none⟩ = some v)
 clear HL0 HR0 HB0
 refine start_ (n := 6) (S := fun w' => w'.cell? ⟨go, 0, none⟩ = some v) (ds := [5]) #[false, false, false, false, false, false] (by kernel_rfl) rfl rfl (HX.out) (fun hHeld => ?_)
 refine with_tabW visit.tab0 visit.bits0 (fun HT_ HW_ => ?_)
 generalize w.drew = wa at HL HT HR2 HX hHeld ⊢
 refine pure_ (i := 1) (N := some 4) (v := ?_) (a' := ?_) #[false, true, false, false, false, false] rfl rfl (any_of HT_.out (by kernel_rfl)) (fun _ _ _ h => h) (Or.inl ⟨by rfl, ?_⟩) ?_ ?_
 rotate_left
 ·exact gw_
 rotate_left
 ·exact ap_
 refine take_ (i := 0) (N := some 3) (v := ?_) (a' := ?_) #[true, true, false, false, false, false] rfl rfl (take_ofW HT_.out HW_.out (by kernel_rfl)) (fun _ _ _ h => h) (Or.inl ⟨by rfl, ?_⟩) hHeld ?_ ?_
 rotate_left
 ·intro w' s0
  go_simp
  with_reducible rfl
 rotate_left
 ·exact ap_
 refine one_ (i := 2) (N := some 5) #[true, true, true, false, false, false] rfl rfl (one_of HT_.out (by kernel_rfl)) (by decide) (fun K hK => ?_)
 refine goes_ Try.func77 (by kernel_rfl) rfl #[.slice A1 b.length c1] (by rfl) rfl rfl (by (try simp only [List.map_toArray, List.map_cons, List.map_nil]); first | done | rfl) ?_
 with_reducible refine (impl_Diagonal.calls A1 c1 b b _ HR2.out.c HC1.out (by unfold impl_Diagonal.f; rw [if_pos (by have := HN.out; omega)])).mono ?_
 rintro e w6 ⟨v6, rfl, ho6, hb6⟩
 refine ⟨_, rfl, ?_⟩
 obtain ⟨A6, c6, rfl⟩ := Kd.R_slice ho6
 have HO6 := Aside0.mk ho6
 have HB6 := Aside0.mk hb6
 clear ho6 hb6
 refine hK.out _ _ ((HB6.out.cell (World.block_lt_of_cell? _ _ HX.out)).trans HX.out) (fun hHeld => ?_)
 clear hK K
 refine norm_ (a' := ?_) ?_ ?_
 rotate_left
 ·show Act.put _ (some 5) _ = _
  simp only [Act.put, List.setIfInBounds_toArray, List.set_cons_zero, List.set_cons_succ, i64_w, i32_w]
  rfl
 refine one_ (i := 3) (N := some 6) #[true, true, true, true, false, false] rfl rfl (one_of HT_.out (by kernel_rfl)) (by decide) (fun K hK => ?_)
 refine value_ (w1 := ?_) (v := ?_) (by rfl) rfl ?_ ?_
 rotate_left 2
 ·go_simp
  constructor
  ·rfl
  ·rfl
 refine hK.out _ _ (((below_alloc HB6.out _).cell (World.block_lt_of_cell? _ _ HX.out)).trans HX.out) (fun hHeld => ?_)
 clear hK K
 refine norm_ (a' := ?_) ?_ ?_
 rotate_left
 ·show Act.put _ (some 6) _ = _
  simp only [Act.put, List.setIfInBounds_toArray, List.set_cons_zero, List.set_cons_succ, i64_w, i32_w]
  rfl
 refine one_ (i := 4) (N := some 7) #[true, true, true, true, true, false] rfl rfl (one_of HT_.out (by kernel_rfl)) (by decide) (fun K hK => ?_)
 refine Kd.S_append_step (Kd.slice 72 k72) (w0 := w0) w0.heap.size (by rfl) (.tmp 3) (.tmp 6) 59 30 (.slice none 0 0) 24 rfl Try.underlying59 gr_info rfl (by decide) (by omega) v xs b [.slice A6 b.length c6] (fun _ => True) (fun k_ => wa.heap.size ≤ k_) rfl rfl ?zp ?zq ?zf ?zO ?zB ?zS ?zL ?_
 (case zp => exact ⟨_, rfl, Kd.R_mono (Kd.R_lower (Kd.R_bound HO6.out) (below_size HL.out.bel)) (fun _ hk => hk.2.1)⟩)
 (case zq => exact fun k_ hk => ⟨trivial, fun he => by have := Kd.S_lt HL.out.row k_ he.symm; omega⟩)
 (case zf => exact fun _ _ => trivial)
 (case zO => exact Kd.S_mono (Kd.S_below (Kd.S_bound HL.out.row) HB6.out) (fun k_ hk => ⟨trivial, Nat.not_le_of_lt hk.2.2.1⟩))
 (case zB => exact HL.out.bel.trans (HB6.out.mono (below_size HL.out.bel)))
 (case zS => exact Nat.le_trans (below_size HL.out.bel) (below_size HB6.out))
 (case zL => have := HM.out; omega)
 intro v8 w8 ho8 hb8 hg8 hat8
 have hput := lk_put (Lk.below HL.out HB6.out) (LkTo.below HT.out HB6.out) (Lk.below HL.out HB6.out).box ho8 hb8 hg8 hat8
 have hx8 := (blk_cell ((hg8.block go (blk_lt (Lk.below HL.out HB6.out).box) (fun e => (Kd.R_ne (Kd.S_R (Lk.below HL.out HB6.out).row) (Lk.below HL.out HB6.out).box (by decide)) e)).trans (Lk.below HL.out HB6.out).box) 0).trans rfl
 have hf8 := blk_frozen ((hg8.block go (blk_lt (Lk.below HL.out HB6.out).box) (fun e => (Kd.R_ne (Kd.S_R (Lk.below HL.out HB6.out).row) (Lk.below HL.out HB6.out).box (by decide)) e)).trans (Lk.below HL.out HB6.out).box) 0
 obtain ⟨A8, c8, rfl⟩ := Kd.S_slice ho8
 have HP := Aside0.mk hput
 clear ho8 hb8 hg8 hat8 hput
 refine hK.out _ _ (hx8) (fun hHeld => ?_)
 clear hK K
 refine norm_ (a' := ?_) ?_ ?_
 rotate_left
 ·show Act.put _ (some 7) _ = _
  simp only [Act.put, List.setIfInBounds_toArray, List.set_cons_zero, List.set_cons_succ, i64_w, i32_w]
  rfl
 refine last_ (i := 5) (N := none) #[true, true, true, true, true, true] rfl rfl (one_of HT_.out (by kernel_rfl)) (by decide) (fun K hK => ?_)
 refine skip_ (w1 := ?_) (by rfl) rfl ?_ ?_
 rotate_left
 ·go_simp
  rfl
 refine hK.out _ _ ?_
 clear hK K
 refine done_ (done_of HT_.out (by kernel_rfl)) ?_
 try go_wp2
 refine bodyPost_ret (results_none rfl _ _ _) rfl ?_
 have hp := HP.out
 simp only [List.length_append, List.length_cons, List.length_nil, Nat.zero_add] at hp
 exact ⟨rfl, _, hp.1, hp.2⟩
def CutsIH (m : Int) (N : Nat) : Prop := ∀ (all b : List S72) (fr : Nat) (A0 : Option Addr) (c0 : Nat) (A1 : Option Addr) (c1 : Nat) (go : Nat) (v : Value) (xs : List (List S72)) (w0 w : World), all.length - fr < N → fr ≤ all.length → all.length ≤ c0 → b.length ≤ c1 → (b.length : Int) ≤ m → b.length + (all.length - fr) ≤ 1000 → all.length ≤ 1000 → xs.length + (lookT m (all.drop fr) b).length ≤ 1099511627776 → LkR go w v A0 all → LkR go w v A1 b → Lk w0 go w v xs → Calls Try.prog 82 #[.slice A0 all.length c0, .slice A1 b.length c1, .int .i64 (fr : Int), .int .i64 (m - b.length), .func (.func 84) #[] #[.pointer (some ⟨go, 0, none⟩)]] w (LkPost w0 go w v (xs ++ lookT m (all.drop fr) b))
theorem cuts_yes (m : Int) (hm : 0 ≤ m ∧ m ≤ 5) (all b : List S72) (fr : Nat) (A0 : Option Addr) (c0 : Nat) (A1 : Option Addr) (c1 : Nat) (go : Nat) (v : Value) (xs : List (List S72)) (w0 w : World) (hfr : fr ≤ all.length) (hc0 : all.length ≤ c0) (hc1 : b.length ≤ c1) (hbn : (b.length : Int) ≤ m) (hsum : b.length + (all.length - fr) ≤ 1000) (hall : all.length ≤ 1000) (hmax : xs.length + (lookT m (all.drop fr) b).length ≤ 1099511627776) (hr1 : LkR go w v A0 all) (hr2 : LkR go w v A1 b) (hL : Lk w0 go w v xs) (hc : (b.length : Int) = m) :
  Calls Try.prog 82 #[.slice A0 all.length c0, .slice A1 b.length c1, .int .i64 (fr : Int), .int .i64 (m - b.length), .func (.func 84) #[] #[.pointer (some ⟨go, 0, none⟩)]] w (LkPost w0 go w v (xs ++ lookT m (all.drop fr) b)) := by
 have hlook : lookT m (all.drop fr) b = [b] := by unfold lookT; rw [if_pos hc]
 rw [hlook] at hmax ⊢
 have HV := Aside0.mk (visit_calls b A1 c1 go v xs w0 w hc1 (by omega) hmax hr2 hL)
 have hbe : ((m - (b.length : Int)) == 0) = true := by rw [beq_iff_eq]; omega
 clear hr1 hr2 hL hlook hc hsum hmax hc0 hc1 hfr hall hbn
 go_enter Try.func82, Try.ntmps82
 go_wp2_with fail
 refine Calls.mono HV.out ?_
 rintro e w4 ⟨rfl, hp⟩
 have HP := Aside0.mk hp
 clear hp
 go_wp2
 refine bodyPost_ret (results_none rfl _ _ _) rfl ?_
 exact ⟨rfl, HP.out⟩
set_option maxHeartbeats 8000000 in
set_option maxRecDepth 100000 in
theorem cuts_no (m : Int) (hm : 0 ≤ m ∧ m ≤ 5) (N : Nat) (ih : CutsIH m N) (all b : List S72) (fr : Nat) (A0 : Option Addr) (c0 : Nat) (A1 : Option Addr) (c1 : Nat) (go : Nat) (v : Value) (xs : List (List S72)) (w0 w : World) (hN : all.length - fr < N + 1) (hfr : fr ≤ all.length) (hc0 : all.length ≤ c0) (hc1 : b.length ≤ c1) (hbn : (b.length : Int) ≤ m) (hsum : b.length + (all.length - fr) ≤ 1000) (hall : all.length ≤ 1000) (hmax : xs.length + (lookT m (all.drop fr) b).length ≤ 1099511627776) (hr1 : LkR go w v A0 all) (hr2 : LkR go w v A1 b) (hL : Lk w0 go w v xs) (hc : ¬ (b.length : Int) = m) :
  Calls Try.prog 82 #[.slice A0 all.length c0, .slice A1 b.length c1, .int .i64 (fr : Int), .int .i64 (m - b.length), .func (.func 84) #[] #[.pointer (some ⟨go, 0, none⟩)]] w (LkPost w0 go w v (xs ++ lookT m (all.drop fr) b)) := by
 have hlook : lookT m (all.drop fr) b = lookL m (all.drop fr) b := by unfold lookT; rw [if_neg hc]
 rw [hlook] at hmax ⊢
 have HN := Aside0.mk hsum
 have HM0 := Aside0.mk hmax
 have HN2 := Aside0.mk hN
 have HC0 := Aside0.mk hc0
 have HC1 := Aside0.mk hc1
 have hbe : ((m - (b.length : Int)) == 0) = false := by rw [beq_eq_false_iff_ne]; omega
 have HW2 := Aside0.mk (show ∀ d : S72, wrap64 (m - (b.length : Int) - 1) = m - ((b ++ [d]).length : Int) by intro d; rw [List.length_append, List.length_singleton]; unfold wrap64; omega)
 have HBN := Aside0.mk (show ∀ d : S72, ((b ++ [d]).length : Int) ≤ m by intro d; rw [List.length_append, List.length_singleton]; omega)
 have hsmall2 : b.length ≤ 1000 := by omega
 have HL0 := Aside0.mk hL
 have HR0 := Aside0.mk hr2
 have HA0 := Aside0.mk hr1
 have IH := Aside0.mk ih
 obtain ⟨m1, m2⟩ := hm
 clear hr1 hr2 hL hlook hc hsum hmax hc0 hc1 hN ih hbn
 go_enter Try.func82, Try.ntmps82
 go_wp2
 go_loopg [10] (all.length + 1) (fun gg' s10 wr => ∃ (i : Nat) (v' : Value) (ys : List (List S72)), s10 = .int .i64 i ∧ i ≤ all.length ∧ Aside0 (all.length + 1 ≤ gg' + i) ∧ fr ≤ i ∧ Aside0 (ys ++ lookL m (all.drop i) b = xs ++ lookL m (all.drop fr) b) ∧ Aside0 (Lk w0 go wr v' ys) ∧ Aside0 (LkTo go w v wr v'))
 case atStart => exact ⟨fr, v, xs, rfl, hfr, ⟨by omega⟩, Nat.le_refl _, ⟨rfl⟩, HL0, ⟨LkTo.refl go w v⟩⟩
 case round =>
  obtain ⟨i, v1, ys, rfl, hi, HG, hfi, HEQ, HL1, HT1⟩ := hrel
  have HRB := Aside0.mk (HR0.out.to HT1.out)
  have HRA := Aside0.mk (HA0.out.to HT1.out)
  by_cases hlt : i < all.length
  ·have q0 : (i : Int) < (all.length : Int) := by omega
   have p0 : (0 : Int) ≤ (i : Int) := by omega
   obtain ⟨d, hd⟩ : ∃ d, rd_T72 all (i : Int) = d := ⟨_, rfl⟩
   have HS := Aside0.mk (lookL_step m all b i hlt)
   rw [hd] at HS
   obtain ⟨ad, rfl, h0, h1⟩ := at_T72 HRA.out.c (i : Int) p0 q0
   simp only [Int.toNat_natCast] at h0 h1
   rw [hd] at h0 h1
   have HCF := Aside0.mk (crosses_calls d A1 c1 b wr HRB.out.c)
   cases hany : b.any (crossP d) with
   | true =>
    have HEQ2 := Aside0.mk (show ys ++ lookL m (all.drop (i + 1)) b = xs ++ lookL m (all.drop fr) b by rw [← HEQ.out, HS.out, if_pos hany, List.nil_append])
    rw [hany] at HCF
    clear HEQ HS hany hd
    go_wp2_with (go_at_call 66; refine HCF.out.mono ?_; rintro e w5 ⟨rfl, hb5⟩; have HL3 := Aside0.mk (HL1.out.below hb5); have HT3 := Aside0.mk (HT1.out.below hb5); clear hb5)
    go_roundg (all.length - i)
    case measure => have := HG.out; omega
    case rel => exact ⟨i + 1, v1, ys, by go_num, by omega, ⟨by omega⟩, by omega, HEQ2, HL3, HT3⟩
   | false =>
    have HEQ2 := Aside0.mk (show (ys ++ lookT m (all.drop (i + 1)) (b ++ [d])) ++ lookL m (all.drop (i + 1)) b = xs ++ lookL m (all.drop fr) b by rw [← HEQ.out, HS.out, hany, if_neg (by simp), List.append_assoc])
    have HM := Aside0.mk (show ys.length + (lookT m (all.drop (i + 1)) (b ++ [d])).length ≤ 1099511627776 by
     have h1 := congrArg List.length HEQ2.out
     have h2 := HM0.out
     simp only [List.length_append] at h1
     omega)
    have HW1 := Aside0.mk (show wrap64 ((i : Int) + 1) = ((i + 1 : Nat) : Int) by unfold wrap64; omega)
    rw [hany] at HCF
    clear HEQ HS hany
    go_wp2_with (go_at_call 66; refine HCF.out.mono ?_; rintro e w5 ⟨rfl, hb5⟩; have HL2 := Aside0.mk (HL1.out.below hb5); have HT2 := Aside0.mk (HT1.out.below hb5); have HR3 := Aside0.mk (HRB.out.below hb5); have HRA3 := Aside0.mk (HRA.out.below hb5); clear hb5)
    have HB0 := Aside0.mk (below_drew (Below.refl w5.heap.size w5))
    have HL := Aside0.mk (Lk.below HL2.out HB0.out)
    have HT := Aside0.mk (HT2.out.below HB0.out)
    have HR2 := Aside0.mk (HR3.out.below HB0.out)
    have HRA2 := Aside0.mk (HRA3.out.below HB0.out)
    obtain ⟨ad', e_, h6_0, h6_1⟩ := at_T72 HRA2.out.c (i : Int) p0 q0
    injection e_ with e_
    subst e_
    simp only [Int.toNat_natCast] at h6_0 h6_1
    rw [hd] at h6_0 h6_1
    have hcut : ∀ W : World, (Instr.slice 30 (.slice A1 b.length c1) none (some (.int .i64 (b.length : Int))) (some (.int .i64 (b.length : Int)))).run Try.prog W = .ok (.slice A1 b.length b.length) W := cut3 A1 b.length c1 HC1.out hsmall2
    replace p0 := eq_true p0
    replace q0 := eq_true q0
    clear HL2 HT2 HR3 HRA3 HB0 HCF h0 h1 hd
    refine start_ (n := 19) (S := fun w' => w'.cell? (ad.add (i * 2)) = some (.int .i64 d.f0) ∧ w'.cell? ⟨(ad.add (i * 2)).block, (ad.add (i * 2)).off + 1, none⟩ = some (.int .i64 d.f1)) (ds := [18]) #[false, false, false, false, false, false, false, false, false, false, false, false, false, false, false, false, false, false, false] (by kernel_rfl) rfl rfl ⟨h6_0, h6_1⟩ (fun hHeld => ?_)
    refine with_tabW cuts.tab6 cuts.bits6 (fun HT_ HW_ => ?_)
    generalize w5.drew = wa at HL HT HR2 HRA2 hHeld ⊢
    refine pure_ (i := 0) (N := some 30) (v := ?_) (a' := ?_) #[true, false, false, false, false, false, false, false, false, false, false, false, false, false, false, false, false, false, false] rfl rfl (any_of HT_.out (by kernel_rfl)) (fun _ _ _ h => h) (Or.inl ⟨by rfl, ?_⟩) ?_ ?_
    rotate_left
    ·exact gw_
    rotate_left
    ·exact ap_
    refine pure_ (i := 1) (N := some 31) (v := ?_) (a' := ?_) #[true, true, false, false, false, false, false, false, false, false, false, false, false, false, false, false, false, false, false] rfl rfl (any_of HT_.out (by kernel_rfl)) (fun _ _ _ h => h) (Or.inl ⟨by rfl, ?_⟩) ?_ ?_
    rotate_left
    ·exact gw_
    rotate_left
    ·exact ap_
    refine pure_ (i := 2) (N := some 32) (v := ?_) (a' := ?_) #[true, true, true, false, false, false, false, false, false, false, false, false, false, false, false, false, false, false, false] rfl rfl (any_of HT_.out (by kernel_rfl)) (fun _ _ _ h => h) (Or.inl ⟨by rfl, ?_⟩) ?_ ?_
    rotate_left
    ·exact gw_
    rotate_left
    ·exact ap_
    refine pure_ (i := 3) (N := some 33) (v := ?_) (a' := ?_) #[true, true, true, true, false, false, false, false, false, false, false, false, false, false, false, false, false, false, false] rfl rfl (any_of HT_.out (by kernel_rfl)) (fun _ _ _ h => h) (Or.inl ⟨by rfl, ?_⟩) ?_ ?_
    rotate_left
    ·exact gw_
    rotate_left
    ·exact ap_
    refine pure_ (i := 4) (N := some 34) (v := ?_) (a' := ?_) #[true, true, true, true, true, false, false, false, false, false, false, false, false, false, false, false, false, false, false] rfl rfl (any_of HT_.out (by kernel_rfl)) (fun _ _ _ h => h) (Or.inl ⟨by rfl, ?_⟩) ?_ ?_
    rotate_left
    ·exact gw_
    rotate_left
    ·exact ap_
    refine pure_ (i := 5) (N := some 35) (v := ?_) (a' := ?_) #[true, true, true, true, true, true, false, false, false, false, false, false, false, false, false, false, false, false, false] rfl rfl (any_of HT_.out (by kernel_rfl)) (fun _ _ _ h => h) (Or.inl ⟨by rfl, ?_⟩) ?_ ?_
    rotate_left
    ·exact gw_
    rotate_left
    ·exact ap_
    refine pure_ (i := 6) (N := some 36) (v := ?_) (a' := ?_) #[true, true, true, true, true, true, true, false, false, false, false, false, false, false, false, false, false, false, false] rfl rfl (any_of HT_.out (by kernel_rfl)) (fun _ _ _ h => h) (Or.inl ⟨by rfl, ?_⟩) ?_ ?_
    rotate_left
    ·exact gw_
    rotate_left
    ·exact ap_
    refine pure_ (i := 7) (N := some 37) (v := ?_) (a' := ?_) #[true, true, true, true, true, true, true, true, false, false, false, false, false, false, false, false, false, false, false] rfl rfl (any_of HT_.out (by kernel_rfl)) (fun _ _ _ h => h) (Or.inl ⟨by rfl, ?_⟩) ?_ ?_
    rotate_left
    ·exact gw_
    rotate_left
    ·exact ap_
    refine pure_ (i := 8) (N := some 38) (v := ?_) (a' := ?_) #[true, true, true, true, true, true, true, true, true, false, false, false, false, false, false, false, false, false, false] rfl rfl (any_of HT_.out (by kernel_rfl)) (fun _ _ _ h => h) (Or.inl ⟨by rfl, ?_⟩) ?_ ?_
    rotate_left
    ·exact gw_
    rotate_left
    ·exact ap_
    refine pure_ (i := 9) (N := some 39) (v := ?_) (a' := ?_) #[true, true, true, true, true, true, true, true, true, true, false, false, false, false, false, false, false, false, false] rfl rfl (any_of HT_.out (by kernel_rfl)) (fun _ _ _ h => h) (Or.inl ⟨by rfl, ?_⟩) ?_ ?_
    rotate_left
    ·exact gw_
    rotate_left
    ·exact ap_
    refine pure_ (i := 13) (N := some 43) (v := ?_) (a' := ?_) #[true, true, true, true, true, true, true, true, true, true, false, false, false, true, false, false, false, false, false] rfl rfl (any_of HT_.out (by kernel_rfl)) (fun _ _ _ h => h) (Or.inl ⟨by rfl, ?_⟩) ?_ ?_
    rotate_left
    ·exact gw_
    rotate_left
    ·exact ap_
    refine pure_ (i := 14) (N := some 44) (v := ?_) (a' := ?_) #[true, true, true, true, true, true, true, true, true, true, false, false, false, true, true, false, false, false, false] rfl rfl (any_of HT_.out (by kernel_rfl)) (fun _ _ _ h => h) (Or.inl ⟨by rfl, ?_⟩) ?_ ?_
    rotate_left
    ·exact gw_
    rotate_left
    ·exact ap_
    refine pure_ (i := 15) (N := some 45) (v := ?_) (a' := ?_) #[true, true, true, true, true, true, true, true, true, true, false, false, false, true, true, true, false, false, false] rfl rfl (any_of HT_.out (by kernel_rfl)) (fun _ _ _ h => h) (Or.inl ⟨by rfl, ?_⟩) ?_ ?_
    rotate_left
    ·exact gw_
    rotate_left
    ·exact ap_
    refine pure_ (i := 16) (N := some 46) (v := ?_) (a' := ?_) #[true, true, true, true, true, true, true, true, true, true, false, false, false, true, true, true, true, false, false] rfl rfl (any_of HT_.out (by kernel_rfl)) (fun _ _ _ h => h) (Or.inl ⟨by rfl, ?_⟩) ?_ ?_
    rotate_left
    ·exact gw_
    rotate_left
    ·exact ap_
    refine pure_ (i := 17) (N := some 47) (v := ?_) (a' := ?_) #[true, true, true, true, true, true, true, true, true, true, false, false, false, true, true, true, true, true, false] rfl rfl (any_of HT_.out (by kernel_rfl)) (fun _ _ _ h => h) (Or.inl ⟨by rfl, ?_⟩) ?_ ?_
    rotate_left
    ·exact gw_
    rotate_left
    ·exact ap_
    refine take_ (i := 10) (N := some 40) (v := ?_) (a' := ?_) #[true, true, true, true, true, true, true, true, true, true, true, false, false, true, true, true, true, true, false] rfl rfl (take_ofW HT_.out HW_.out (by kernel_rfl)) (fun _ _ _ h => h) (Or.inl ⟨by rfl, ?_⟩) hHeld ?_ ?_
    rotate_left
    ·rintro w' ⟨s0, s1⟩
     go_simp
     with_reducible rfl
    rotate_left
    ·exact ap_
    refine one_ (i := 11) (N := some 41) #[true, true, true, true, true, true, true, true, true, true, true, true, false, true, true, true, true, true, false] rfl rfl (one_of HT_.out (by kernel_rfl)) (by decide) (fun K hK => ?_)
    have HS6 := Aside0.mk hHeld
    refine Kd.R_lit_step k72 (w0 := wa) wa.heap.size 72 ?hg (N := 41) ?hd (xs := ([d] : List S72)) (inner := [.int .i64 d.f0, .int .i64 d.f1]) (ok := fun _ => True) (okp := fun _ => True) ?hr ?hp (fun _ hk => hk) trivial (Below.refl _ _) (Nat.le_refl _) (by simp) ?_; (case hd => rfl); (case hg => rfl); (case hr => first | (go_simp; done) | (go_simp; rfl)); (case hp => exact (Reps.c2 (show Kd.M k72 _ _ _ d [.int .i64 d.f0, .int .i64 d.f1] from (k72_mkM _ _ _ d)) (Reps.none _ _)))
    intro v41 w41 ho41 hb41 hg41_ hn41_
    clear hg41_ hn41_
    obtain ⟨A41, c41, rfl⟩ := Kd.R_slice ho41
    obtain ⟨ad41, e41_, hc41_⟩ := (Kd.R_reads' ho41).2.2.2.2 (by simp)
    subst e41_
    have HC41 := Aside0.mk (hc41_ 0 d rfl)
    have HB41 := Aside0.mk hb41
    clear ho41 hb41 hc41_
    refine hK.out _ _ ⟨(HB41.out.cell (World.block_lt_of_cell? _ _ (HS6.out.1))).trans (HS6.out.1), (HB41.out.cell (World.block_lt_of_cell? _ _ (HS6.out.2))).trans (HS6.out.2)⟩ (fun hHeld => ?_)
    clear hK K
    refine norm_ (a' := ?_) ?_ ?_
    rotate_left
    ·show Act.put _ (some 41) _ = _
     simp only [Act.put, List.setIfInBounds_toArray, List.set_cons_zero, List.set_cons_succ, i64_w, i32_w]
     rfl
    refine one_ (i := 12) (N := some 42) #[true, true, true, true, true, true, true, true, true, true, true, true, true, true, true, true, true, true, false] rfl rfl (one_of HT_.out (by kernel_rfl)) (by decide) (fun K hK => ?_)
    obtain ⟨i0_, hi0_, hz1_, hz2_, hz3_⟩ := info_parts info72
    obtain ⟨c41_, hcl_, hck_, hcc_⟩ := HC41.out
    obtain rfl := k72_open hck_
    refine step_append_grows rfl (.tmp 36) (.tmp 41) 30 rfl 72 i0_ (.agg #[(.int .i64 0), (.int .i64 0)]) 2 16 Try.underlying30 hi0_ hz1_ hz2_ hz3_ rfl (by decide) A1 b.length b.length (cellsOf b) rfl ?yn (cellsOf_len b) ?yo ad41 1 c41 [.int .i64 d.f0, .int .i64 d.f1] rfl (by rfl) ?yc ?y1 (by omega) (by unfold maxLen; omega) (by omega) ?_
    (case yn => exact fun e_ => by have h_ := HR2.out.c; rw [e_] at h_; refine (fun h0_ => ⟨h0_, h0_⟩ : b.length = 0 → b.length = 0 ∧ b.length = 0) ?_; rcases Nat.eq_zero_or_pos b.length with h1_ | h1_; exact h1_; obtain ⟨x_, hx_, _⟩ := h_.2.2 h1_; cases hx_)
    (case yo => exact fun b_ e_ j_ u_ hj_ => by have h_ := Kd.C_below HR2.out.c HB41.out; rw [e_] at h_; exact cellsOf_at h_ j_ u_ hj_)
    (case yc => exact fun j_ u_ hj_ => by have h_ := hcc_ j_ u_ hj_; rw [Nat.zero_mul, Nat.zero_add] at h_; exact h_)
    (case y1 => exact fun u_ hu_ => k72.K_one (k72_mk w41 d) u_ hu_)
    intro v42 w42 hown42 hg42
    have ho42 : Kd.R k72 72 w42 wa.heap.size (fun _ => True) v42 (b ++ [d]) := ⟨fun _ _ => trivial, _, own_weaken (by rw [List.length_append, List.length_singleton]; exact hown42) (below_size HB41.out), by have h_ := cellsOf_reps (W := w42) (base := wa.heap.size) (ok := fun k_ => True ∧ some k_ ≠ v42.ownBlock) (b ++ [d]); unfold cellsOf at h_; rw [List.flatMap_append] at h_; exact h_⟩
    have hb42 : Below wa.heap.size wa w42 := HB41.out.grown hg42 (below_size HB41.out) (fun _ h_ => by cases h_)
    obtain ⟨A42, c42, rfl⟩ := Kd.R_slice ho42
    have HO42 := Aside0.mk ho42
    have HB42 := Aside0.mk hb42
    clear ho42 hb42 hown42 hg42 hi0_ hz1_ hz2_ hz3_ hcl_ hck_ hcc_
    refine hK.out _ _ ⟨(HB42.out.cell (World.block_lt_of_cell? _ _ (HS6.out.1))).trans (HS6.out.1), (HB42.out.cell (World.block_lt_of_cell? _ _ (HS6.out.2))).trans (HS6.out.2)⟩ (fun hHeld => ?_)
    clear hK K
    refine norm_ (a' := ?_) ?_ ?_
    rotate_left
    ·show Act.put _ (some 42) _ = _
     simp only [Act.put, List.setIfInBounds_toArray, List.set_cons_zero, List.set_cons_succ, i64_w, i32_w]
     rfl
    refine last_ (i := 18) (N := some 48) #[true, true, true, true, true, true, true, true, true, true, true, true, true, true, true, true, true, true, true] rfl rfl (one_of HT_.out (by kernel_rfl)) (by decide) (fun K hK => ?_)
    have hcall := IH.out all (b ++ [d]) (i + 1) (some ad) c0 A42 c42 go v1 ys w0 w42 (by have := HN2.out; omega) (by omega) HC0.out (Kd.R_reads' HO42.out).2.1 (HBN.out d) (by rw [List.length_append, List.length_singleton]; have := HN.out; omega) hall HM.out (LkR.below HRA2.out HB42.out) (LkR.new HL.out HO42.out) (Lk.below HL.out HB42.out)
    have HCALL := Aside0.mk hcall
    clear hcall
    refine goes_ Try.func82 (by kernel_rfl) rfl #[.slice (some ad) all.length c0, .slice A42 (b ++ [d]).length c42, .int .i64 (wrap64 ((i : Int) + 1)), .int .i64 (wrap64 (m - b.length - 1)), .func (.func 84) #[] #[.pointer (some ⟨go, 0, none⟩)]] (by rfl) rfl rfl (by (try simp only [List.map_toArray, List.map_cons, List.map_nil]); first | done | rfl | (simp only [List.length_append, List.length_cons, List.length_nil, Nat.zero_add]; rfl)) ?_
    rw [HW1.out, HW2.out d]
    refine HCALL.out.mono ?_
    rintro e w62 ⟨rfl, v62, hl62, ht62⟩
    refine ⟨_, rfl, ?_⟩
    have HL3 := Aside0.mk hl62
    have HT3 := Aside0.mk ((HT.out.below HB42.out).trans ht62)
    clear hl62 ht62 HCALL
    refine hK.out _ _ ?_
    clear hK K
    refine norm_ (a' := ?_) ?_ ?_
    rotate_left
    ·show Act.put _ (some 48) _ = _
     simp only [Act.put, List.setIfInBounds_toArray, List.set_cons_zero, List.set_cons_succ, i64_w, i32_w]
     rfl
    refine done_ (done_of HT_.out (by kernel_rfl)) ?_
    go_wp2
    go_roundg (all.length - i)
    case measure => have := HG.out; omega
    case rel => exact ⟨i + 1, v62, ys ++ lookT m (all.drop (i + 1)) (b ++ [d]), by go_num, by omega, ⟨by omega⟩, by omega, HEQ2, HL3, HT3⟩
  ·have hltz : ¬ (i : Int) < (all.length : Int) := by omega
   go_wp2
   refine bodyPost_ret (results_none rfl _ _ _) rfl ?_
   have he := HEQ.out
   rw [List.drop_of_length_le (show all.length ≤ i by omega), show lookL m [] b = [] from rfl, List.append_nil] at he
   exact ⟨rfl, v1, by rw [← he]; exact HL1.out, HT1.out⟩
theorem cuts_calls (m : Int) (hm : 0 ≤ m ∧ m ≤ 5) : ∀ N : Nat, CutsIH m N := by
 intro N
 induction N with
 | zero =>
  intro all b fr A0 c0 A1 c1 go v xs w0 w hN
  omega
 | succ N ih =>
  intro all b fr A0 c0 A1 c1 go v xs w0 w hN hfr hc0 hc1 hbn hsum hall hmax hr1 hr2 hL
  by_cases hc : (b.length : Int) = m
  ·exact cuts_yes m hm all b fr A0 c0 A1 c1 go v xs w0 w hfr hc0 hc1 hbn hsum hall hmax hr1 hr2 hL hc
  ·exact cuts_no m hm N ih all b fr A0 c0 A1 c1 go v xs w0 w hN hfr hc0 hc1 hbn hsum hall hmax hr1 hr2 hL hc

def impl_AllCuts.f (k : Nat) (a0 a1 : Int) : Option (List (List S72) × Bool) := (impl_isListedCut.f a0).bind fun b => if b = true then ((impl_within.f a1 0 (wrap64 (a0 - 3))).bind fun b2 => if b2 = true then ((impl_allDiagonals.f k a0).bind fun ds => if 0 ≤ a1 ∧ a1 ≤ 5 ∧ ds.length ≤ 20 then some (lookT a1 ds [], true) else none) else some ([], false)) else some ([], false)
theorem impl_AllCuts.mono : ∀ a0 a1 k, LeO (impl_AllCuts.f k a0 a1) (impl_AllCuts.f (k + 1) a0 a1) := by
 intro a0 a1 k
 unfold impl_AllCuts.f
 exact LeO.bind (LeO.refl _) (fun _ => LeO.ite (LeO.bind (LeO.refl _) (fun _ => LeO.ite (LeO.bind (impl_allDiagonals.mono _ _) (fun _ => LeO.refl _)) (LeO.refl _))) (LeO.refl _))
set_option maxHeartbeats 8000000 in
set_option maxRecDepth 100000 in
theorem impl_AllCuts.calls (k : Nat) (a0 a1 : Int) (r1 : List (List S72)) (r2 : Bool) (w : World) (h : impl_AllCuts.f k a0 a1 = some (r1, r2)) :
  Calls Try.prog 42 #[.int .i64 a0, .int .i64 a1] w fun e w' => ∃ v0_ : Value, e = .returned (.tuple #[v0_, .bool r2]) ∧ Kd.S (Kd.slice 72 k72) 30 w' w.heap.size (fun _ => True) v0_ r1 ∧ Below w.heap.size w w' := by
 have H : ((impl_isListedCut.f a0).bind fun b => if b = true then ((impl_within.f a1 0 (wrap64 (a0 - 3))).bind fun b2 => if b2 = true then ((impl_allDiagonals.f k a0).bind fun ds => if 0 ≤ a1 ∧ a1 ≤ 5 ∧ ds.length ≤ 20 then some (lookT a1 ds [], true) else none) else some ([], false)) else some ([], false)) = some (r1, r2) := h
 clear h
 obtain ⟨b, hb, H⟩ := Option.bind_eq_some_iff.mp H
 cases b with
 | false =>
  rw [if_neg (by simp)] at H
  injection H with H
  injection H with e1 e2
  subst e1; subst e2
  have HT := Aside0.mk hb
  clear hb
  go_enter Try.func42, Try.ntmps42
  go_wp2_with (go_at_call 81; refine (impl_isListedCut.calls a0 false _ HT.out).mono ?_; rintro e w5 ⟨rfl, hb⟩; have HB2 := Aside0.mk (show Below w.heap.size w w5 from by first | exact hb | exact Drawn0.below hb); clear hb)
  go_ret2
  exact ⟨_, rfl, Kd.S_nil _ _ _ _ _, HB2.out⟩
 | true =>
  rw [if_pos rfl] at H
  obtain ⟨b2, hb2, H⟩ := Option.bind_eq_some_iff.mp H
  cases b2 with
  | false =>
   rw [if_neg (by simp)] at H
   injection H with H
   injection H with e1 e2
   subst e1; subst e2
   have HT := Aside0.mk hb
   have HT2 := Aside0.mk hb2
   clear hb hb2
   go_enter Try.func42, Try.ntmps42
   go_wp2_with (first
    | (go_at_call 81; refine (impl_isListedCut.calls a0 true _ HT.out).mono ?_; rintro e w5 ⟨rfl, hb⟩; have HB2 := Aside0.mk (show Below w.heap.size w w5 from by first | exact hb | exact Drawn0.below hb); clear hb)
    | (go_at_call 53; refine (impl_within.calls a1 0 (wrap64 (a0 - 3)) false _ HT2.out).mono ?_; rintro e w6 ⟨rfl, hb⟩; have HB3 := Aside0.mk (show Below w5.heap.size w5 w6 from by first | exact hb | exact Drawn0.below hb); clear hb))
   go_ret2
   exact ⟨_, rfl, Kd.S_nil _ _ _ _ _, below_then HB2.out (below_size HB2.out) HB3.out⟩
  | true =>
   rw [if_pos rfl] at H
   obtain ⟨t, ht, H⟩ := Option.bind_eq_some_iff.mp H
   by_cases hn : 0 ≤ a1 ∧ a1 ≤ 5 ∧ t.length ≤ 20
   ·rw [if_pos hn] at H
    injection H with H
    injection H with e1 e2
    subst e1; subst e2
    have hle : (lookT a1 t []).length ≤ 1048576 := by
     have h2 := lookL_le a1 t []
     have h3 : 2 ^ t.length ≤ 2 ^ 20 := Nat.pow_le_pow_right (by omega) hn.2.2
     have h4 : (2 : Nat) ^ 20 = 1048576 := by decide
     unfold lookT
     split
     ·simp
     ·omega
    have hkey : ∀ (go : Nat) (A0 : Option Addr) (c0 : Nat) (v : Value) (W : World), Lk w go W v [] → LkR go W v A0 t → t.length ≤ c0 →
      Calls Try.prog 82 #[.slice A0 t.length c0, .slice none 0 0, .int .i64 0, .int .i64 a1, .func (.func 84) #[] #[.pointer (some ⟨go, 0, none⟩)]] W fun e w7 => e = .returned (.tuple #[]) ∧ ∃ v', Lk w go w7 v' (lookT a1 t []) := by
     intro go A0 c0 v W hL hR hc
     have h1 := cuts_calls a1 ⟨hn.1, hn.2.1⟩ (t.length + 1) t [] 0 A0 c0 none 0 go v [] w W (by omega) (Nat.zero_le _) hc (by simp) (by simp; omega) (by have := hn.2.2; simp; omega) (by omega) (by rw [List.drop_zero]; simp; omega) hR ⟨Kd.C_nil _ _, fun a ha => by cases ha⟩ hL
     rw [List.drop_zero, show a1 - (([] : List S72).length : Int) = a1 by simp] at h1
     refine Calls.mono h1 ?_
     rintro e w7 ⟨rfl, v', hl, _⟩
     exact ⟨rfl, v', hl⟩
    have HK := Aside0.mk hkey
    have HT := Aside0.mk hb
    have HT2 := Aside0.mk hb2
    have HTD := Aside0.mk ht
    clear hkey ht hle hn hb hb2
    go_enter Try.func42, Try.ntmps42
    go_wp2_with (first
     | (go_at_call 81; refine (impl_isListedCut.calls a0 true _ HT.out).mono ?_; rintro e w5 ⟨rfl, hb⟩; have HB2 := Aside0.mk (show Below w.heap.size w w5 from by first | exact hb | exact Drawn0.below hb); clear hb)
     | (go_at_call 53; refine (impl_within.calls a1 0 (wrap64 (a0 - 3)) true _ HT2.out).mono ?_; rintro e w6 ⟨rfl, hb⟩; have HB3 := Aside0.mk (below_then HB2.out (below_size HB2.out) (show Below w5.heap.size w5 w6 from by first | exact hb | exact Drawn0.below hb)); clear hb)
     | ((with_reducible refine gate_dst (N := 17) rfl ?_); refine Kd.R_lit (Kd.tag (fun _ => 0) (Kd.slice 72 k72)) (w0 := w6) w6.heap.size 30 ?hg (N := 17) ?hd (xs := ([] : List (List S72 × Nat))) (inner := []) (ok := fun _ => True) (okp := fun _ => True) ?hr ?hp (fun _ hk => hk) trivial (Below.refl _ _) (Nat.le_refl _) (by simp) ?_; (case hd => rfl); (case hg => rfl); (case hr => first | (go_simp; done) | (go_simp; rfl)); (case hp => exact (Reps.none _ _)); intro v17 w7 ho7 hb7 hg_ hnew_; clear hg_ hnew_; have HO7 := Aside0.mk (show Kd.S (Kd.slice 72 k72) 30 w7 w.heap.size (fun _ => True) v17 [] from Kd.S_lower ⟨fun _ => 0, ho7⟩ (below_size HB3.out)); have HB7 := Aside0.mk (below_then HB3.out (below_size HB3.out) hb7); clear ho7 hb7)
     | ((with_reducible refine gate_dst (N := 6) rfl ?_); refine box_event ?hg (N := 6) ?hd (cs := #[.slice none 0 0]) (t := 59) ?hr ?_; (case hd => rfl); (case hg => rfl); (case hr => first | (go_simp; done) | (go_simp; rfl)); intro go hgo w8 hbox hb8; have HX8 := Aside0.mk hbox; have HGO := Aside0.mk (show w.heap.size ≤ go by rw [hgo]; exact below_size HB7.out); have HO8 := Aside0.mk (Kd.S_below HO7.out hb8); have HB8 := Aside0.mk (below_then HB7.out (below_size HB7.out) hb8); have hco : w8.cell? ⟨go, 0, none⟩ = some (.slice none 0 0) := (blk_cell HX8.out 0).trans rfl; have hfo := blk_frozen HX8.out 0; clear hbox hb8 hgo; obtain ⟨A17, c17, rfl⟩ := Kd.S_slice HO8.out)
     | (go_at_call 83; refine (impl_allDiagonals.calls k a0 t _ HTD.out).mono ?_; rintro e w9 ⟨v19, rfl, ho9, hb9⟩; obtain ⟨A19, c19, rfl⟩ := Kd.R_slice ho9; have HLK := Aside0.mk (Lk.below (w0 := w) (gb := go) ⟨blk_put (cs := #[.slice none 0 0]) HX8.out 0 (.slice A17 0 c17) rfl, Kd.S_set HO8.out HX8.out (by decide) 0 (.slice A17 0 c17), below_set HB8.out HGO.out, HGO.out⟩ hb9); have HRD := Aside0.mk (LkR.new (w0 := w) (gb := go) ⟨blk_put (cs := #[.slice none 0 0]) HX8.out 0 (.slice A17 0 c17) rfl, Kd.S_set HO8.out HX8.out (by decide) 0 (.slice A17 0 c17), below_set HB8.out HGO.out, HGO.out⟩ ho9); have HCD := Aside0.mk (Kd.R_reads' ho9).2.1; clear ho9 hb9)
     | (go_at_call 82; refine (HK.out go A19 c19 (.slice A17 0 c17) _ HLK.out HRD.out HCD.out).mono ?_; rintro e w10 ⟨rfl, v10, hl10⟩; have hx10 : w10.cell? ⟨go, 0, none⟩ = some v10 := (blk_cell hl10.box 0).trans rfl; have HL10 := Aside0.mk hl10; clear hl10))
    go_ret2
    exact ⟨v10, rfl, HL10.out.row, HL10.out.bel⟩
   ·rw [if_neg hn] at H
    cases H

/-! ### laws_eqDiagonal: function 54 -/
def laws_eqDiagonal.f (a0_0 : Int) (a0_1 : Int) (a1_0 : Int) (a1_1 : Int) : Option (Bool) := if a0_0 = a1_0 then (if a0_1 = a1_1 then (some true) else (some false)) else (some false)
set_option maxHeartbeats 8000000 in
set_option maxRecDepth 100000 in
theorem laws_eqDiagonal.calls (a0_0 : Int) (a0_1 : Int) (a1_0 : Int) (a1_1 : Int) (r : Bool) (w : World) (h : laws_eqDiagonal.f a0_0 a0_1 a1_0 a1_1 = some r) :
  Calls Try.prog 54 #[.agg #[.int .i64 a0_0, .int .i64 a0_1], .agg #[.int .i64 a1_0, .int .i64 a1_1]] w fun e w' => e = .returned (.bool r) ∧ Below w.heap.size w w' := by
 have hu72 := Try.underlying72
 have HB := Aside0.mk (Below.refl w.heap.size w)
 have H : (if a0_0 = a1_0 then (if a0_1 = a1_1 then (some true) else (some false)) else (some false)) = some r := h
 clear h
 by_cases c3 : a0_0 = a1_0
 ·rw [if_pos c3] at H
  have c3b0 : (a0_0 == a1_0) = true := beq_iff_eq.mpr c3
  have c3b1 : (a0_0 != a1_0) = false := bne_eq_false_iff_eq.mpr c3
  clear c3
  by_cases c4 : a0_1 = a1_1
  ·rw [if_pos c4] at H
   have c4b0 : (a0_1 == a1_1) = true := beq_iff_eq.mpr c4
   have c4b1 : (a0_1 != a1_1) = false := bne_eq_false_iff_eq.mpr c4
   clear c4
   obtain rfl := Option.some.inj H
   go_enter Try.func54, Try.ntmps54
   go_wp2_with (first | ((with_reducible refine gate_dst (N := 2) rfl ?_); refine box_event ?hg (N := 2) ?hd (cs := #[.int .i64 a0_0, .int .i64 a0_1]) (t := 72) ?hr ?_; (case hd => rfl); (case hg => rfl); (case hr => first | (go_simp; done) | (go_simp; rfl)); intro gb127 hg w5 hbox hb; have n0_ := Aside0.mk (below_step blw_ hb); have n1_ := Aside0.mk (hbox); have n2_ := Aside0.mk ((by rw [hg]; exact (below_size blw_) : w.heap.size ≤ gb127)); have n3_ := Aside0.mk ((by rw [hg]; exact (below_size blw_) : w.heap.size ≤ gb127)); clear HB; have HB := n0_; have BK127 := n1_; have GW127 := n2_; have GE127 := n3_; clear n0_ n1_ n2_ n3_; clear hb hbox hg) | ((with_reducible refine gate_dst (N := 3) rfl ?_); refine box_event ?hg (N := 3) ?hd (cs := #[.int .i64 a1_0, .int .i64 a1_1]) (t := 72) ?hr ?_; (case hd => rfl); (case hg => rfl); (case hr => first | (go_simp; done) | (go_simp; rfl)); intro gb128 hg w6 hbox hb; have n0_ := Aside0.mk (blk_below (g := gb127) (o := .cells #[.int .i64 a0_0, .int .i64 a0_1] 72 (0, 0)) (bk_ BK127.out) hb); have n1_ := Aside0.mk (below_step (by repeat (first | (with_reducible first | exact HB.out | apply below_alloc | apply pw_below_drewN | apply below_drew1 | refine below_set ?_ GE127.out) | exact HB.out)) hb); have n2_ := Aside0.mk (hbox); have n3_ := Aside0.mk ((by rw [hg]; exact (below_size (by repeat (first | (with_reducible first | exact HB.out | apply below_alloc | apply pw_below_drewN | apply below_drew1 | refine below_set ?_ GE127.out) | exact HB.out))) : w.heap.size ≤ gb128)); have n4_ := Aside0.mk ((by rw [hg]; exact (below_size (by repeat (first | (with_reducible first | exact HB.out | apply below_alloc | apply pw_below_drewN | apply below_drew1 | refine below_set ?_ GE127.out) | exact HB.out))) : w.heap.size ≤ gb128)); have n5_ := Aside0.mk ((by rw [hg]; exact Nat.ne_of_lt (blk_lt (g := gb127) (o := .cells #[.int .i64 a0_0, .int .i64 a0_1] 72 (0, 0)) (bk_ BK127.out)) : gb127 ≠ gb128)); have n6_ := Aside0.mk ((by rw [hg]; exact Nat.ne_of_gt (blk_lt (g := gb127) (o := .cells #[.int .i64 a0_0, .int .i64 a0_1] 72 (0, 0)) (bk_ BK127.out)) : gb128 ≠ gb127)); clear BK127; clear HB; have BK127 := n0_; have HB := n1_; have BK128 := n2_; have GW128 := n3_; have GE128 := n4_; have NB127_128 := n5_; have NB128_127 := n6_; clear n0_ n1_ n2_ n3_ n4_ n5_ n6_; clear hb hbox hg; have hnb7 := NB127_128.out; have hnc7 := NB128_127.out; have hcz8_0 : w6.cell? ⟨gb127, 0, none⟩ = some (.int .i64 a0_0) := (blk_cell BK127.out 0).trans rfl; have hcz8_1 : w6.cell? ⟨gb127, 1, none⟩ = some (.int .i64 a0_1) := (blk_cell BK127.out 1).trans rfl; have hfz8_0 := blk_frozen BK127.out 0; have hfz8_1 := blk_frozen BK127.out 1; have hcz9_0 : w6.cell? ⟨gb128, 0, none⟩ = some (.int .i64 a1_0) := (blk_cell BK128.out 0).trans rfl; have hcz9_1 : w6.cell? ⟨gb128, 1, none⟩ = some (.int .i64 a1_1) := (blk_cell BK128.out 1).trans rfl; have hfz9_0 := blk_frozen BK128.out 0; have hfz9_1 := blk_frozen BK128.out 1))
   go_ret
   exact ⟨by first | rfl | (simp [errW_none, errW_some] <;> rfl) | (simp [*, errW_none, errW_some] <;> rfl), by repeat (first | (with_reducible first | exact HB.out | apply below_alloc | apply pw_below_drewN | apply below_drew1 | refine below_set ?_ GE127.out | refine below_set ?_ GE128.out) | exact HB.out)⟩
  ·rw [if_neg c4] at H
   have c4b0 : (a0_1 == a1_1) = false := beq_eq_false_iff_ne.mpr c4
   have c4b1 : (a0_1 != a1_1) = true := bne_iff_ne.mpr c4
   obtain rfl := Option.some.inj H
   go_enter Try.func54, Try.ntmps54
   go_wp2_with (first | ((with_reducible refine gate_dst (N := 2) rfl ?_); refine box_event ?hg (N := 2) ?hd (cs := #[.int .i64 a0_0, .int .i64 a0_1]) (t := 72) ?hr ?_; (case hd => rfl); (case hg => rfl); (case hr => first | (go_simp; done) | (go_simp; rfl)); intro gb127 hg w10 hbox hb; have n0_ := Aside0.mk (below_step blw_ hb); have n1_ := Aside0.mk (hbox); have n2_ := Aside0.mk ((by rw [hg]; exact (below_size blw_) : w.heap.size ≤ gb127)); have n3_ := Aside0.mk ((by rw [hg]; exact (below_size blw_) : w.heap.size ≤ gb127)); clear HB; have HB := n0_; have BK127 := n1_; have GW127 := n2_; have GE127 := n3_; clear n0_ n1_ n2_ n3_; clear hb hbox hg) | ((with_reducible refine gate_dst (N := 3) rfl ?_); refine box_event ?hg (N := 3) ?hd (cs := #[.int .i64 a1_0, .int .i64 a1_1]) (t := 72) ?hr ?_; (case hd => rfl); (case hg => rfl); (case hr => first | (go_simp; done) | (go_simp; rfl)); intro gb128 hg w11 hbox hb; have n0_ := Aside0.mk (blk_below (g := gb127) (o := .cells #[.int .i64 a0_0, .int .i64 a0_1] 72 (0, 0)) (bk_ BK127.out) hb); have n1_ := Aside0.mk (below_step (by repeat (first | (with_reducible first | exact HB.out | apply below_alloc | apply pw_below_drewN | apply below_drew1 | refine below_set ?_ GE127.out) | exact HB.out)) hb); have n2_ := Aside0.mk (hbox); have n3_ := Aside0.mk ((by rw [hg]; exact (below_size (by repeat (first | (with_reducible first | exact HB.out | apply below_alloc | apply pw_below_drewN | apply below_drew1 | refine below_set ?_ GE127.out) | exact HB.out))) : w.heap.size ≤ gb128)); have n4_ := Aside0.mk ((by rw [hg]; exact (below_size (by repeat (first | (with_reducible first | exact HB.out | apply below_alloc | apply pw_below_drewN | apply below_drew1 | refine below_set ?_ GE127.out) | exact HB.out))) : w.heap.size ≤ gb128)); have n5_ := Aside0.mk ((by rw [hg]; exact Nat.ne_of_lt (blk_lt (g := gb127) (o := .cells #[.int .i64 a0_0, .int .i64 a0_1] 72 (0, 0)) (bk_ BK127.out)) : gb127 ≠ gb128)); have n6_ := Aside0.mk ((by rw [hg]; exact Nat.ne_of_gt (blk_lt (g := gb127) (o := .cells #[.int .i64 a0_0, .int .i64 a0_1] 72 (0, 0)) (bk_ BK127.out)) : gb128 ≠ gb127)); clear BK127; clear HB; have BK127 := n0_; have HB := n1_; have BK128 := n2_; have GW128 := n3_; have GE128 := n4_; have NB127_128 := n5_; have NB128_127 := n6_; clear n0_ n1_ n2_ n3_ n4_ n5_ n6_; clear hb hbox hg; have hnb12 := NB127_128.out; have hnc12 := NB128_127.out; have hcz13_0 : w11.cell? ⟨gb127, 0, none⟩ = some (.int .i64 a0_0) := (blk_cell BK127.out 0).trans rfl; have hcz13_1 : w11.cell? ⟨gb127, 1, none⟩ = some (.int .i64 a0_1) := (blk_cell BK127.out 1).trans rfl; have hfz13_0 := blk_frozen BK127.out 0; have hfz13_1 := blk_frozen BK127.out 1; have hcz14_0 : w11.cell? ⟨gb128, 0, none⟩ = some (.int .i64 a1_0) := (blk_cell BK128.out 0).trans rfl; have hcz14_1 : w11.cell? ⟨gb128, 1, none⟩ = some (.int .i64 a1_1) := (blk_cell BK128.out 1).trans rfl; have hfz14_0 := blk_frozen BK128.out 0; have hfz14_1 := blk_frozen BK128.out 1))
   go_ret
   exact ⟨by first | rfl | (simp [errW_none, errW_some] <;> rfl) | (simp [*, errW_none, errW_some] <;> rfl), by repeat (first | (with_reducible first | exact HB.out | apply below_alloc | apply pw_below_drewN | apply below_drew1 | refine below_set ?_ GE127.out | refine below_set ?_ GE128.out) | exact HB.out)⟩
 ·rw [if_neg c3] at H
  have c3b0 : (a0_0 == a1_0) = false := beq_eq_false_iff_ne.mpr c3
  have c3b1 : (a0_0 != a1_0) = true := bne_iff_ne.mpr c3
  obtain rfl := Option.some.inj H
  go_enter Try.func54, Try.ntmps54
  go_wp2_with (first | ((with_reducible refine gate_dst (N := 2) rfl ?_); refine box_event ?hg (N := 2) ?hd (cs := #[.int .i64 a0_0, .int .i64 a0_1]) (t := 72) ?hr ?_; (case hd => rfl); (case hg => rfl); (case hr => first | (go_simp; done) | (go_simp; rfl)); intro gb127 hg w15 hbox hb; have n0_ := Aside0.mk (below_step blw_ hb); have n1_ := Aside0.mk (hbox); have n2_ := Aside0.mk ((by rw [hg]; exact (below_size blw_) : w.heap.size ≤ gb127)); have n3_ := Aside0.mk ((by rw [hg]; exact (below_size blw_) : w.heap.size ≤ gb127)); clear HB; have HB := n0_; have BK127 := n1_; have GW127 := n2_; have GE127 := n3_; clear n0_ n1_ n2_ n3_; clear hb hbox hg) | ((with_reducible refine gate_dst (N := 3) rfl ?_); refine box_event ?hg (N := 3) ?hd (cs := #[.int .i64 a1_0, .int .i64 a1_1]) (t := 72) ?hr ?_; (case hd => rfl); (case hg => rfl); (case hr => first | (go_simp; done) | (go_simp; rfl)); intro gb128 hg w16 hbox hb; have n0_ := Aside0.mk (blk_below (g := gb127) (o := .cells #[.int .i64 a0_0, .int .i64 a0_1] 72 (0, 0)) (bk_ BK127.out) hb); have n1_ := Aside0.mk (below_step (by repeat (first | (with_reducible first | exact HB.out | apply below_alloc | apply pw_below_drewN | apply below_drew1 | refine below_set ?_ GE127.out) | exact HB.out)) hb); have n2_ := Aside0.mk (hbox); have n3_ := Aside0.mk ((by rw [hg]; exact (below_size (by repeat (first | (with_reducible first | exact HB.out | apply below_alloc | apply pw_below_drewN | apply below_drew1 | refine below_set ?_ GE127.out) | exact HB.out))) : w.heap.size ≤ gb128)); have n4_ := Aside0.mk ((by rw [hg]; exact (below_size (by repeat (first | (with_reducible first | exact HB.out | apply below_alloc | apply pw_below_drewN | apply below_drew1 | refine below_set ?_ GE127.out) | exact HB.out))) : w.heap.size ≤ gb128)); have n5_ := Aside0.mk ((by rw [hg]; exact Nat.ne_of_lt (blk_lt (g := gb127) (o := .cells #[.int .i64 a0_0, .int .i64 a0_1] 72 (0, 0)) (bk_ BK127.out)) : gb127 ≠ gb128)); have n6_ := Aside0.mk ((by rw [hg]; exact Nat.ne_of_gt (blk_lt (g := gb127) (o := .cells #[.int .i64 a0_0, .int .i64 a0_1] 72 (0, 0)) (bk_ BK127.out)) : gb128 ≠ gb127)); clear BK127; clear HB; have BK127 := n0_; have HB := n1_; have BK128 := n2_; have GW128 := n3_; have GE128 := n4_; have NB127_128 := n5_; have NB128_127 := n6_; clear n0_ n1_ n2_ n3_ n4_ n5_ n6_; clear hb hbox hg; have hnb17 := NB127_128.out; have hnc17 := NB128_127.out; have hcz18_0 : w16.cell? ⟨gb127, 0, none⟩ = some (.int .i64 a0_0) := (blk_cell BK127.out 0).trans rfl; have hcz18_1 : w16.cell? ⟨gb127, 1, none⟩ = some (.int .i64 a0_1) := (blk_cell BK127.out 1).trans rfl; have hfz18_0 := blk_frozen BK127.out 0; have hfz18_1 := blk_frozen BK127.out 1; have hcz19_0 : w16.cell? ⟨gb128, 0, none⟩ = some (.int .i64 a1_0) := (blk_cell BK128.out 0).trans rfl; have hcz19_1 : w16.cell? ⟨gb128, 1, none⟩ = some (.int .i64 a1_1) := (blk_cell BK128.out 1).trans rfl; have hfz19_0 := blk_frozen BK128.out 0; have hfz19_1 := blk_frozen BK128.out 1))
  go_ret
  exact ⟨by first | rfl | (simp [errW_none, errW_some] <;> rfl) | (simp [*, errW_none, errW_some] <;> rfl), by repeat (first | (with_reducible first | exact HB.out | apply below_alloc | apply pw_below_drewN | apply below_drew1 | refine below_set ?_ GE127.out | refine below_set ?_ GE128.out) | exact HB.out)⟩

end Go.Proofs.Ytnikefebkcminaa.PFnExactAllCuts
