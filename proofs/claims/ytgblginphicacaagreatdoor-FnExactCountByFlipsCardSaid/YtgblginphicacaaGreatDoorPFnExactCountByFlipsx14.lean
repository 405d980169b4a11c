-- WRITTEN BY A PROGRAM OF THIS WORK (wip/tools/ppatch.py) for this claim.
import Derived.Test.YtgblginphicacaaGreatDoorPFnExactCountByFlipsx0
import Derived.Test.YtgblginphicacaaGreatDoorPFnExactCountByFlipsx5
import Derived.Test.YtgblginphicacaaGreatDoorPFnExactCountByFlipsx11
import Derived.Test.YtgblginphicacaaGreatDoorPFnExactCountByFlipsx13
namespace Go.Proofs.YtgblginphicacaaGreatDoor.PFnExactCountByFlips
open Go.RowKit Go.Proofs.YtgblginphicacaaGreatDoorW.PrintWords Go.Proofs.YtgblginphicacaaGreatDoorW.PrintLast Go.Proofs.YtgblginphicacaaGreatDoorW.PrintMore
attribute [local go_sem] max2_int min2_int max_two min_two max_three min_three max_four min_four   -- for this text's walks alone
set_option linter.unusedVariables false
set_option linter.unusedSimpArgs false

/-! ### impl_allTriangulations: function 18 -/

def idxOf {α : Type} (p : α → Bool) : List α → Nat → Int
 | [], _ => -1
 | x :: l, i => if p x = true then (i : Int) else idxOf p l (i + 1)
theorem idxOf_nonneg {α : Type} (p : α → Bool) (l : List α) : ∀ i : Nat, 0 ≤ idxOf p l i ↔ l.any p = true := by
 induction l with
 | nil => intro i; simp [idxOf]
 | cons x l ih =>
  intro i
  rw [List.any_cons]
  unfold idxOf
  by_cases h : p x = true
  ·rw [if_pos h, h]
   simp
  ·rw [if_neg h, Bool.eq_false_iff.mpr h, Bool.false_or]
   exact ih _
theorem idxOf_any {α : Type} (p : α → Bool) (l : List α) (i : Nat) : decide (idxOf p l i ≥ 0) = l.any p := by
 rw [Bool.eq_iff_iff, decide_eq_true_iff]
 exact idxOf_nonneg p l i
theorem idxOf_step {α : Type} (p : α → Bool) (d : α) (l : List α) (i : Nat) (h : i < l.length) : idxOf p (l.drop i) i = if p (l.getD i d) = true then (i : Int) else idxOf p (l.drop (i + 1)) (i + 1) := by
 rw [List.drop_eq_getElem_cons h, List.getD_eq_getElem?_getD, List.getElem?_eq_getElem h]
 rfl

set_option maxHeartbeats 2000000 in
theorem IndexFuncM38 (p : S38 → Bool) (g : Nat) (lb : Array Value) (eg : ∀ args w, (callFunc g args).run Tryz.prog w = .ok (.enter g args) w) (A0 : Option Addr) (c0 : Nat) (l0 : List S38) (w : World) (hr0 : Kd.C k38 w A0 l0.length l0)
  (hp : ∀ (W : World) (x : S38), x ∈ l0 → Below w.heap.size w W → Calls Tryz.prog g (#[.agg #[.int .i64 x.f0, .int .i64 x.f1]] ++ lb) W fun e w' => e = .returned (.bool (p x)) ∧ Below W.heap.size W w') :
  Calls Tryz.prog 48 #[.slice A0 l0.length c0, .func (.func g) #[] lb] w fun e w' => e = .returned (.int .i64 (idxOf p l0 0)) ∧ Below w.heap.size w w' := by
 have hbig : l0.length ≤ 9223372036854775807 := hr0.2.1
 have HR0 := Aside0.mk hr0
 have HP := Aside0.mk hp
 clear hr0 hp
 go_enter Tryz.func48, Tryz.ntmps48
 go_wp2
 go_loopg [5, 8] l0.length (fun gg _ s8 wr => ∃ i : Nat, i ≤ l0.length ∧ l0.length - i ≤ gg ∧ s8 = .int .i64 i ∧ Aside0 (idxOf p l0 0 = idxOf p (l0.drop i) i) ∧ Aside0 (Below w.heap.size w wr))
 case atStart => exact ⟨0, Nat.zero_le _, by omega, rfl, ⟨by rw [List.drop_zero]⟩, ⟨Below.refl _ w⟩⟩
 case round =>
  obtain ⟨i, hi, hg, rfl, HX, HB⟩ := hrel
  by_cases hlt : i < l0.length
  ·have p0 : (0 : Int) ≤ (i : Int) := by omega
   have q0 : (i : Int) < (l0.length : Int) := by omega
   obtain ⟨ad, rfl, h0, h1⟩ := at_T38 (Kd.C_below HR0.out HB.out) (i : Int) p0 q0
   simp only [Int.toNat_natCast] at h0 h1
   have hstep := idxOf_step p z38 l0 i hlt
   have hmem : rd_T38 l0 (i : Int) ∈ l0 := by
    unfold rd_T38
    rw [Int.toNat_natCast, List.getD_eq_getElem?_getD, List.getElem?_eq_getElem hlt]
    exact List.getElem_mem _
   have hcall := HP.out wr (rd_T38 l0 (i : Int)) hmem HB.out
   clear hmem
   have erd : rd_T38 l0 (i : Int) = l0.getD i z38 := by unfold rd_T38; rw [Int.toNat_natCast]
   rw [← erd] at hstep
   clear erd
   generalize rd_T38 l0 (i : Int) = x at h0 h1 hstep hcall
   cases hq : p x with
   | true =>
    rw [hq] at hcall hstep
    have HC := Lib.hid hcall
    have HS := Lib.hid hstep
    clear hcall hstep hq
    go_wp2_with (go_at_fn g; refine HC.out.mono ?_; rintro e w' ⟨rfl, hb'⟩)
    go_ret
    exact ⟨by rw [HX.out, HS.out]; rfl, HB.out.trans (hb'.mono (below_size HB.out))⟩
   | false =>
    rw [hq] at hcall hstep
    have HC := Lib.hid hcall
    have HS := Lib.hid hstep
    clear hcall hstep hq
    go_wp2_with (go_at_fn g; refine HC.out.mono ?_; rintro e w' ⟨rfl, hb'⟩)
    go_roundg (l0.length - (i + 1))
    case measure => omega
    case rel => exact ⟨i + 1, by omega, by omega, by go_num, ⟨by rw [HX.out, HS.out]; rfl⟩, ⟨HB.out.trans (hb'.mono (below_size HB.out))⟩⟩
  ·have hltz : ¬ (i : Int) < (l0.length : Int) := by omega
   go_wp2
   go_ret
   exact ⟨by rw [HX.out, List.drop_of_length_le (by omega)]; rfl, HB.out⟩

set_option maxHeartbeats 2000000 in
theorem ContainsFuncM38 (p : S38 → Bool) (g : Nat) (lb : Array Value) (eg : ∀ args w, (callFunc g args).run Tryz.prog w = .ok (.enter g args) w) (A0 : Option Addr) (c0 : Nat) (l0 : List S38) (w : World) (hr0 : Kd.C k38 w A0 l0.length l0)
  (hp : ∀ (W : World) (x : S38), x ∈ l0 → Below w.heap.size w W → Calls Tryz.prog g (#[.agg #[.int .i64 x.f0, .int .i64 x.f1]] ++ lb) W fun e w' => e = .returned (.bool (p x)) ∧ Below W.heap.size W w') :
  Calls Tryz.prog 29 #[.slice A0 l0.length c0, .func (.func g) #[] lb] w fun e w' => e = .returned (.bool (l0.any p)) ∧ Below w.heap.size w w' := by
 have HC := Aside0.mk (IndexFuncM38 p g lb eg A0 c0 l0 w hr0 hp)
 have ha := idxOf_any p l0 0
 clear hr0 hp
 have HA := Aside0.mk ha
 clear ha
 go_enter Tryz.func29, Tryz.ntmps29
 go_wp2_with (go_at_call 48; refine HC.out.mono ?_; rintro e w1 ⟨rfl, hb⟩; have HB := Aside0.mk hb; clear hb)
 go_ret
 exact ⟨by rw [← HA.out]; rfl, HB.out⟩

theorem doCross_is (d e : S38) : impl_doCross.f d.f0 d.f1 e.f0 e.f1 = some (crossP d e) := by
 unfold impl_doCross.f crossP
 repeat' split
 all_goals (congr 1; rw [Bool.eq_iff_iff]; simp only [Bool.or_eq_true, decide_eq_true_eq, Bool.false_eq_true, iff_false, iff_true, true_iff, false_iff]; omega)
theorem gr_info : (Tryz.prog.info? 27).map (fun i => (i.zero, i.size, i.bytes)) = some (some (.slice none 0 0), 1, 24) := by kernel_rfl
def grow.T1 : Bool × List (List Nat × List Nat) := (true, [([], []), ([], []), ([1], [1]), ([2], [2]), ([0, 3, 2], [0, 3]), ([4, 4, 0, 1, 2, 3, 4], [4])])
def grow.B1 : List Nat := [0, 0, 2, 6, 15, 31]
theorem grow.tab1 : rtab .any (opsOf Tryz.f27 1) = grow.T1 := by kernel_rfl
theorem grow.bits1 : waitsOk grow.T1.2 grow.B1 = true := by kernel_rfl
def grow.T6 : Bool × List (List Nat × List Nat) := (true, [([], []), ([], []), ([], []), ([2], [2]), ([], []), ([4], [4]), ([1, 3, 5], [1, 3, 5]), ([], []), ([], []), ([7, 8], [7, 8]), ([9], [9]), ([10], [10]), ([6, 11], [6, 11]), ([], []), ([13], [13]), ([0, 12, 14, 12], [0, 12, 14])])
def grow.B6 : List Nat := [0, 0, 0, 4, 0, 16, 62, 0, 0, 384, 896, 1920, 4094, 0, 8192, 32767]
theorem grow.tab6 : rtab .any (opsOf Tryz.f27 6) = grow.T6 := by kernel_rfl
theorem grow.bits6 : waitsOk grow.T6.2 grow.B6 = true := by kernel_rfl
def growLit.T1 : Bool × List (List Nat × List Nat) := (true, [([], []), ([], []), ([0, 1], [0, 1]), ([2], [2]), ([], []), ([3, 4], [3, 4]), ([5, 5, 0, 1, 2, 3, 4, 5], [5])])
def growLit.B1 : List Nat := [0, 0, 3, 7, 0, 31, 63]
theorem growLit.tab1 : rtab .any (opsOf Tryz.f30 1) = growLit.T1 := by kernel_rfl
theorem growLit.bits1 : waitsOk growLit.T1.2 growLit.B1 = true := by kernel_rfl
set_option maxHeartbeats 8000000 in
set_option maxRecDepth 100000 in
theorem growLit_calls (e x : S38) (ga gi : Nat) (Aa : Option Addr) (ca : Nat) (all : List S38) (i : Nat) (hi : i < all.length) (hx : rd_T38 all (i : Int) = x) (w : World) (hba : w.heap[ga]? = some (.cells #[.slice Aa all.length ca] 27 (0, 0))) (hbi : w.heap[gi]? = some (.cells #[.int .i64 i] 3 (0, 0))) (hC : Kd.C k38 w Aa all.length all) :
  Calls Tryz.prog 30 (#[.agg #[.int .i64 e.f0, .int .i64 e.f1]] ++ #[.pointer (some ⟨ga, 0, none⟩), .pointer (some ⟨gi, 0, none⟩)]) w fun e' w' => e' = .returned (.bool (crossP x e)) ∧ Below w.heap.size w w' := by
 have p0 : (0 : Int) ≤ (i : Int) := by omega
 have q0 : (i : Int) < (all.length : Int) := by omega
 obtain ⟨ad, rfl, h0, h1⟩ := at_T38 hC (i : Int) p0 q0
 simp only [Int.toNat_natCast] at h0 h1
 rw [hx] at h0 h1
 have HA := Aside0.mk hba
 have HI := Aside0.mk hbi
 have H0 := Aside0.mk h0
 have H1 := Aside0.mk h1
 clear hba hbi hC h0 h1 hx
 replace p0 := eq_true p0
 replace q0 := eq_true q0
 show Calls Tryz.prog 30 #[.agg #[.int .i64 e.f0, .int .i64 e.f1], .pointer (some ⟨ga, 0, none⟩), .pointer (some ⟨gi, 0, none⟩)] w _
 go_enter Tryz.func30, Tryz.ntmps30
 go_wp2_with ((with_reducible refine gate_dst (N := 3) rfl ?_); refine bxe_ 3 #[.int .i64 e.f0, .int .i64 e.f1] 38 ?_; intro ge hg w3 hbox hb3; have HX3 := Aside0.mk hbox; have HB3 := Aside0.mk hb3; clear hbox hb3 hg)
 have hs0 : w3.cell? ⟨ga, 0, none⟩ = some (.slice (some ad) all.length ca) := (blk_cell ((HB3.out.block ga (blk_lt HA.out)).trans HA.out) 0).trans rfl
 have hs1 : w3.cell? ⟨gi, 0, none⟩ = some (.int .i64 i) := (blk_cell ((HB3.out.block gi (blk_lt HI.out)).trans HI.out) 0).trans rfl
 have hs2 : w3.cell? (ad.add (i * 2)) = some (.int .i64 x.f0) := (HB3.out.cell (World.block_lt_of_cell? _ _ H0.out)).trans H0.out
 have hs3 : w3.cell? ⟨(ad.add (i * 2)).block, (ad.add (i * 2)).off + 1, none⟩ = some (.int .i64 x.f1) := (HB3.out.cell (World.block_lt_of_cell? _ _ H1.out)).trans H1.out
 have hs4 : w3.cell? ⟨ge, 0, none⟩ = some (.int .i64 e.f0) := (blk_cell HX3.out 0).trans rfl
 have hs5 : w3.cell? ⟨ge, 1, none⟩ = some (.int .i64 e.f1) := (blk_cell HX3.out 1).trans rfl
 replace HB3 := Aside0.mk (below_drew HB3.out)
 refine start_ (n := 7) (S := fun w' => w'.cell? ⟨ga, 0, none⟩ = some (.slice (some ad) all.length ca) ∧ w'.cell? ⟨gi, 0, none⟩ = some (.int .i64 i) ∧ w'.cell? (ad.add (i * 2)) = some (.int .i64 x.f0) ∧ w'.cell? ⟨(ad.add (i * 2)).block, (ad.add (i * 2)).off + 1, none⟩ = some (.int .i64 x.f1) ∧ w'.cell? ⟨ge, 0, none⟩ = some (.int .i64 e.f0) ∧ w'.cell? ⟨ge, 1, none⟩ = some (.int .i64 e.f1)) (ds := []) #[false, false, false, false, false, false, false] (by kernel_rfl) rfl rfl ⟨hs0, hs1, hs2, hs3, hs4, hs5⟩ (fun hHeld => ?_)
 refine with_tabW growLit.tab1 growLit.bits1 (fun HT_ HW_ => ?_)
 generalize w3.drew = w4 at hHeld HB3 ⊢
 refine tak_ 0 5 HT_ HW_ hHeld ?_
 refine tak_ 1 6 HT_ HW_ hHeld ?_
 refine pux_ 2 7 HT_ ?_
 refine tak_ 3 8 HT_ HW_ hHeld ?_
 refine tak_ 4 9 HT_ HW_ hHeld ?_
 refine oner_ 5 10 HT_ (fun K hK => ?_)
 refine goes_ Tryz.func31 (by kernel_rfl) rfl #[.agg #[.int .i64 x.f0, .int .i64 x.f1], .agg #[.int .i64 e.f0, .int .i64 e.f1]] (by rfl) rfl rfl (by (try simp only [List.map_toArray, List.map_cons, List.map_nil]); first | done | rfl) ?_
 with_reducible refine (impl_doCross.calls x.f0 x.f1 e.f0 e.f1 (crossP x e) _ (doCross_is x e)).mono ?_
 rintro e1 w10 ⟨rfl, hb10⟩
 refine ⟨_, rfl, ?_⟩
 have HB10 := Aside0.mk hb10
 clear hb10
 refine hK.out _ _ ⟨(HB10.out.cell (World.block_lt_of_cell? _ _ (hHeld.1))).trans (hHeld.1), (HB10.out.cell (World.block_lt_of_cell? _ _ (hHeld.2.1))).trans (hHeld.2.1), (HB10.out.cell (World.block_lt_of_cell? _ _ (hHeld.2.2.1))).trans (hHeld.2.2.1), (HB10.out.cell (World.block_lt_of_cell? _ _ (hHeld.2.2.2.1))).trans (hHeld.2.2.2.1), (HB10.out.cell (World.block_lt_of_cell? _ _ (hHeld.2.2.2.2.1))).trans (hHeld.2.2.2.2.1), (HB10.out.cell (World.block_lt_of_cell? _ _ (hHeld.2.2.2.2.2))).trans (hHeld.2.2.2.2.2)⟩ (fun hHeld => ?_)
 clear hK K
 refine nor_ 10 ?_
 refine pux_ 6 4 HT_ ?_
 refine done_ (done_of HT_.out (by kernel_rfl)) ?_
 go_wp2
 go_ret
 exact ⟨rfl, HB3.out.trans (HB10.out.mono (below_size HB3.out))⟩
/-- What grow finds in what it captured. -/
structure GrEnv (n : Int) (gn go ga gg : Nat) (all : List S38) (Aa : Option Addr) (ca : Nat) (w : World) (v : Value) : Prop where
 bn : w.heap[gn]? = some (.cells #[.int .i64 n] 3 (0, 0))
 ba : w.heap[ga]? = some (.cells #[.slice Aa all.length ca] 27 (0, 0))
 bg : w.heap[gg]? = some (.cells #[(.func (.func 27) #[] #[.pointer (some ⟨gn, 0, none⟩), .pointer (some ⟨go, 0, none⟩), .pointer (some ⟨ga, 0, none⟩), .pointer (some ⟨gg, 0, none⟩)])] 51 (0, 0))
 ra : LkR go w v Aa all
 hc : all.length ≤ ca
 nv : some ga ≠ v.ownBlock
theorem gr_ne {w w0 : World} {go g t : Nat} {v : Value} {xs : List (List S38)} {cs : Array Value} (hL : Lk w0 go w v xs) (hg : w.heap[g]? = some (.cells cs t (0, 0))) (h1 : t ≠ 27) : some g ≠ v.ownBlock := fun e => by
 obtain ⟨cells, hc⟩ := Kd.S_typed hL.row g e.symm
 rw [hg] at hc
 injection hc with hc
 injection hc with _ ht
 exact h1 ht
theorem GrEnv.to {n : Int} {gn go ga gg : Nat} {all : List S38} {Aa : Option Addr} {ca : Nat} {w w1 w0 : World} {v v1 : Value} {xs : List (List S38)} (h : GrEnv n gn go ga gg all Aa ca w v) (hL : Lk w0 go w v xs) (k : LkTo go w v w1 v1) : GrEnv n gn go ga gg all Aa ca w1 v1 := by
 have hgo := hL.box
 have keep : ∀ (g : Nat) (cs : Array Value) (t : Nat), w.heap[g]? = some (.cells cs t (0, 0)) → t ≠ 43 → some g ≠ v.ownBlock → w1.heap[g]? = some (.cells cs t (0, 0)) := by
  intro g cs t hg ht hv
  refine (k.kept.2 g (blk_lt hg) (fun e => ?_)).trans hg
  rcases e with e | e
  ·exact blk_ne hg hgo ht e
  ·exact hv e
 refine ⟨keep gn _ _ h.bn (by decide) (gr_ne hL h.bn (by decide)), keep ga _ _ h.ba (by decide) h.nv, keep gg _ _ h.bg (by decide) (gr_ne hL h.bg (by decide)), h.ra.to k, h.hc, fun e => ?_⟩
 rcases k.own with k1 | ⟨b, k1, k2⟩
 ·exact h.nv (e.trans k1)
 ·rw [k1] at e
  injection e with e
  have := blk_lt h.ba
  omega
theorem GrEnv.below {n : Int} {gn go ga gg : Nat} {all : List S38} {Aa : Option Addr} {ca : Nat} {w w1 : World} {v : Value} (h : GrEnv n gn go ga gg all Aa ca w v) (hb : Below w.heap.size w w1) : GrEnv n gn go ga gg all Aa ca w1 v :=
 ⟨(hb.block _ (blk_lt h.bn)).trans h.bn, (hb.block _ (blk_lt h.ba)).trans h.ba, (hb.block _ (blk_lt h.bg)).trans h.bg, h.ra.below hb, h.hc, h.nv⟩
/-- A store into a box that is newer than w. -/
theorem LkTo.set {go gi : Nat} {w w1 : World} {v v1 u : Value} (h : LkTo go w v w1 v1) (hg : w.heap.size ≤ gi) : LkTo go w v (w1.setCell ⟨gi, 0, none⟩ u) v1 := ⟨h.kept.setCell (.inr hg) u, h.own⟩
theorem Lk.set {w0 w : World} {go gi : Nat} {v u : Value} {xs : List (List S38)} {cs : Array Value} (h : Lk w0 go w v xs) (hg : w.heap[gi]? = some (.cells cs 3 (0, 0))) (hb : w0.heap.size ≤ gi) : Lk w0 go (w.setCell ⟨gi, 0, none⟩ u) v xs :=
 ⟨blk_far h.box (p := ⟨gi, 0, none⟩) (blk_ne h.box hg (by decide)) u, Kd.S_set h.row hg (by decide) 0 u, h.bel.setCell (show w0.heap.size ≤ (⟨gi, 0, none⟩ : Addr).block from hb) u, h.gbe⟩
theorem LkR.setb {w : World} {go gi : Nat} {v u : Value} {A : Option Addr} {l : List S38} (h : LkR go w v A l) (hn : ∀ a, A = some a → l ≠ [] → a.block ≠ gi) : LkR go (w.setCell ⟨gi, 0, none⟩ u) v A l :=
 ⟨lk_move h.c (fun a hne ha _ => Below.heap_setCell w ⟨gi, 0, none⟩ u a.block (hn a ha hne)), h.far⟩
/-- The cells of a list of pairs. -/
def cellsOf (l : List S38) : List Value := l.flatMap fun x => [.int .i64 x.f0, .int .i64 x.f1]
theorem cellsOf_len (l : List S38) : (cellsOf l).length = l.length * 2 := by
 unfold cellsOf
 induction l with
 | nil => rfl
 | cons x r ih =>
  rw [List.flatMap_cons, List.length_append, ih, List.length_cons]
  simp only [List.length_cons, List.length_nil]
  omega
theorem cellsOf_reps {W : World} {base : Nat} {ok : Nat → Prop} (l : List S38) : Reps (k38.M W base ok) 2 l (cellsOf l) := by
 induction l with
 | nil => exact Reps.none _ _
 | cons x r ih => exact Reps.c2 (k38_mkM _ _ _ x) ih
theorem cellsOf_get (l : List S38) : ∀ (j : Nat) (u : Value), (cellsOf l)[j]? = some u → ∃ x, l[j / 2]? = some x ∧ [Value.int .i64 x.f0, .int .i64 x.f1][j % 2]? = some u := by
 induction l with
 | nil => intro j u h; simp [cellsOf] at h
 | cons x r ih =>
  intro j u h
  have e : cellsOf (x :: r) = .int .i64 x.f0 :: .int .i64 x.f1 :: cellsOf r := rfl
  rw [e] at h
  match j with
  | 0 => exact ⟨x, rfl, h⟩
  | 1 => exact ⟨x, rfl, h⟩
  | j + 2 =>
   rw [List.getElem?_cons_succ, List.getElem?_cons_succ] at h
   obtain ⟨y, h1, h2⟩ := ih j u h
   refine ⟨y, ?_, ?_⟩
   ·rw [show (j + 2) / 2 = j / 2 + 1 by omega, List.getElem?_cons_succ]
    exact h1
   ·rw [show (j + 2) % 2 = j % 2 by omega]
    exact h2
theorem cut3 (A1 : Option Addr) (m c1 : Nat) (hc : m ≤ c1) (hs : m ≤ 1000) : ∀ W : World, (Instr.slice 27 (.slice A1 m c1) none (some (.int .i64 (m : Int))) (some (.int .i64 (m : Int)))).run Tryz.prog W = .ok (.slice A1 m m) W := by
 intro W
 have hu := Tryz.underlying27
 go_simp
/-- What is read, as cells in line. -/
theorem cellsOf_at {w : World} {ad : Addr} {l : List S38} (h : Kd.C k38 w (some ad) l.length l) (j : Nat) (u : Value) (hj : (cellsOf l)[j]? = some u) : w.cell? (ad.add j) = some u := by
 obtain ⟨x, h1, h2⟩ := cellsOf_get l j u hj
 have hl := (List.getElem?_eq_some_iff.1 h1).1
 obtain ⟨ad', e, hc⟩ := h.2.2 (by omega)
 injection e with e
 subst e
 obtain ⟨c, hs, hr, hcell⟩ := hc (j / 2) x h1
 obtain rfl := k38_open hr
 have h3 := hcell (j % 2) u h2
 rw [show j / 2 * k38.sz + j % 2 = j from by show j / 2 * 2 + j % 2 = j; omega] at h3
 exact h3
def GrowIH (n : Int) (N : Nat) : Prop := ∀ (all b : List S38) (fr : Nat) (A1 : Option Addr) (c1 : Nat) (Aa : Option Addr) (ca : Nat) (gn go ga gg : Nat) (v : Value) (xs : List (List S38)) (w0 w : World), all.length - fr < N → fr ≤ all.length → b.length ≤ c1 → b.length + (all.length - fr) ≤ 1000 → all.length ≤ 1000 → xs.length + (lookT (n - 3) (all.drop fr) b).length ≤ 1099511627776 → LkR go w v A1 b → GrEnv n gn go ga gg all Aa ca w v → Lk w0 go w v xs → Calls Tryz.prog 27 (#[.slice A1 b.length c1, .int .i64 (fr : Int)] ++ #[.pointer (some ⟨gn, 0, none⟩), .pointer (some ⟨go, 0, none⟩), .pointer (some ⟨ga, 0, none⟩), .pointer (some ⟨gg, 0, none⟩)]) w (LkPost w0 go w v (xs ++ lookT (n - 3) (all.drop fr) b))
set_option maxHeartbeats 8000000 in
set_option maxRecDepth 100000 in
theorem grow_yes (n : Int) (hn : 3 ≤ n ∧ n ≤ 8) (all b : List S38) (fr : Nat) (A1 : Option Addr) (c1 : Nat) (Aa : Option Addr) (ca : Nat) (gn go ga gg : Nat) (v : Value) (xs : List (List S38)) (w0 w : World) (hfr : fr ≤ all.length) (hc1 : b.length ≤ c1) (hsum : b.length + (all.length - fr) ≤ 1000) (hall : all.length ≤ 1000) (hmax : xs.length + (lookT (n - 3) (all.drop fr) b).length ≤ 1099511627776) (hr2 : LkR go w v A1 b) (hE : GrEnv n gn go ga gg all Aa ca w v) (hL : Lk w0 go w v xs) (hc : (b.length : Int) = n - 3) :
  Calls Tryz.prog 27 (#[.slice A1 b.length c1, .int .i64 (fr : Int)] ++ #[.pointer (some ⟨gn, 0, none⟩), .pointer (some ⟨go, 0, none⟩), .pointer (some ⟨ga, 0, none⟩), .pointer (some ⟨gg, 0, none⟩)]) w (LkPost w0 go w v (xs ++ lookT (n - 3) (all.drop fr) b)) := by
 have hlook : lookT (n - 3) (all.drop fr) b = [b] := by unfold lookT; rw [if_pos hc]
 rw [hlook] at hmax ⊢
 show Calls Tryz.prog 27 #[.slice A1 b.length c1, .int .i64 (fr : Int), .pointer (some ⟨gn, 0, none⟩), .pointer (some ⟨go, 0, none⟩), .pointer (some ⟨ga, 0, none⟩), .pointer (some ⟨gg, 0, none⟩)] w _
 have HN := Aside0.mk hsum
 have HM := Aside0.mk hmax
 have HC1 := Aside0.mk hc1
 have hbe : ((b.length : Int) == n - 3) = true := by simpa using hc
 have hn0 : w.cell? ⟨gn, 0, none⟩ = some (.int .i64 n) := (blk_cell hE.bn 0).trans rfl
 obtain ⟨n1, n2⟩ := hn
 have HL0 := Aside0.mk hL
 have HR0 := Aside0.mk hr2
 clear hr2 hL hlook hc hsum hmax hc1 hE hfr hall
 go_enter Tryz.func27, Tryz.ntmps27
 go_wp2
 have HB0 := Aside0.mk (below_drew (Below.refl w.heap.size w))
 have HL := Aside0.mk (Lk.below HL0.out HB0.out)
 have HT := Aside0.mk (LkTo.below (LkTo.refl go w v) HB0.out)
 have HR2 := Aside0.mk (LkR.below HR0.out HB0.out)
 have HX := Aside0.mk ((blk_cell HL.out.box 0).trans rfl : w.drew.cell? ⟨go, 0, none⟩ = some v)
 clear HL0 HR0 HB0 hn0
 refine start_ (n := 6) (S := fun w' => w'.cell? ⟨go, 0, none⟩ = some v) (ds := [5]) #[false, false, false, false, false, false] (by kernel_rfl) rfl rfl (HX.out) (fun hHeld => ?_)
 refine with_tabW grow.tab1 grow.bits1 (fun HT_ HW_ => ?_)
 generalize w.drew = wa at HL HT HR2 HX hHeld ⊢
 refine pux_ 1 15 HT_ ?_
 refine take_ (i := 0) (N := some 14) (v := ?_) (a' := ?_) #[true, true, false, false, false, false] rfl rfl (take_ofW HT_.out HW_.out (by kernel_rfl)) (fun _ _ _ h => h) (Or.inl ⟨by rfl, ?_⟩) hHeld ?_ ?_
 rotate_left
 ·intro w' s0
  go_simp
  with_reducible rfl
 rotate_left
 ·exact ap_
 refine oner_ 2 16 HT_ (fun K hK => ?_)
 refine goes_ Tryz.func28 (by kernel_rfl) rfl #[.slice A1 b.length c1] (by rfl) rfl rfl (by (try simp only [List.map_toArray, List.map_cons, List.map_nil]); first | done | rfl) ?_
 with_reducible refine (impl_Diagonal_28.calls A1 c1 b b _ HR2.out.c HC1.out (by unfold impl_Diagonal_28.f; rw [if_pos (by have := HN.out; omega)])).mono ?_
 rintro e w6 ⟨v6, rfl, ho6, hb6⟩
 refine ⟨_, rfl, ?_⟩
 obtain ⟨A6, c6, rfl⟩ := Kd.R_slice ho6
 have HO6 := Aside0.mk ho6
 have HB6 := Aside0.mk hb6
 clear ho6 hb6
 refine hK.out _ _ ((HB6.out.cell (World.block_lt_of_cell? _ _ HX.out)).trans HX.out) (fun hHeld => ?_)
 clear hK K
 refine nor_ 16 ?_
 refine oner_ 3 17 HT_ (fun K hK => ?_)
 refine value_ (w1 := ?_) (v := ?_) (by rfl) rfl ?_ ?_
 rotate_left 2
 ·go_simp
  constructor
  ·rfl
  ·rfl
 refine hK.out _ _ (((below_alloc HB6.out _).cell (World.block_lt_of_cell? _ _ HX.out)).trans HX.out) (fun hHeld => ?_)
 clear hK K
 refine nor_ 17 ?_
 refine oner_ 4 18 HT_ (fun K hK => ?_)
 refine Kd.S_append_step (Kd.slice 38 k38) (w0 := w0) w0.heap.size (by rfl) (.tmp 14) (.tmp 17) 43 27 (.slice none 0 0) 24 rfl Tryz.underlying43 gr_info rfl (by decide) (by omega) v xs b [.slice A6 b.length c6] (fun _ => True) (fun k_ => wa.heap.size ≤ k_) rfl rfl ?zp ?zq ?zf ?zO ?zB ?zS ?zL ?_
 (case zp => exact ⟨_, rfl, Kd.R_mono (Kd.R_lower (Kd.R_bound HO6.out) (below_size HL.out.bel)) (fun _ hk => hk.2.1)⟩)
 (case zq => exact fun k_ hk => ⟨trivial, fun he => by have := Kd.S_lt HL.out.row k_ he.symm; omega⟩)
 (case zf => exact fun _ _ => trivial)
 (case zO => exact Kd.S_mono (Kd.S_below (Kd.S_bound HL.out.row) HB6.out) (fun k_ hk => ⟨trivial, Nat.not_le_of_lt hk.2.2.1⟩))
 (case zB => exact HL.out.bel.trans (HB6.out.mono (below_size HL.out.bel)))
 (case zS => exact Nat.le_trans (below_size HL.out.bel) (below_size HB6.out))
 (case zL => have := HM.out; omega)
 intro v8 w8 ho8 hb8 hg8 hat8
 have hput := lk_put (Lk.below HL.out HB6.out) (LkTo.below HT.out HB6.out) (Lk.below HL.out HB6.out).box ho8 hb8 hg8 hat8
 have hx8 := (blk_cell ((hg8.block go (blk_lt (Lk.below HL.out HB6.out).box) (fun e => (Kd.R_ne (Kd.S_R (Lk.below HL.out HB6.out).row) (Lk.below HL.out HB6.out).box (by decide)) e)).trans (Lk.below HL.out HB6.out).box) 0).trans rfl
 have hf8 := blk_frozen ((hg8.block go (blk_lt (Lk.below HL.out HB6.out).box) (fun e => (Kd.R_ne (Kd.S_R (Lk.below HL.out HB6.out).row) (Lk.below HL.out HB6.out).box (by decide)) e)).trans (Lk.below HL.out HB6.out).box) 0
 obtain ⟨A8, c8, rfl⟩ := Kd.S_slice ho8
 have HP := Aside0.mk hput
 clear ho8 hb8 hg8 hat8 hput
 refine hK.out _ _ (hx8) (fun hHeld => ?_)
 clear hK K
 refine nor_ 18 ?_
 refine last_ (i := 5) (N := none) #[true, true, true, true, true, true] rfl rfl (one_of HT_.out (by kernel_rfl)) (by decide) (fun K hK => ?_)
 refine skip_ (w1 := ?_) (by rfl) rfl ?_ ?_
 rotate_left
 ·go_simp
  rfl
 refine hK.out _ _ ?_
 clear hK K
 refine done_ (done_of HT_.out (by kernel_rfl)) ?_
 go_wp2
 refine bodyPost_ret (results_none rfl _ _ _) rfl ?_
 have hp := HP.out
 simp only [List.length_append, List.length_cons, List.length_nil, Nat.zero_add] at hp
 exact ⟨rfl, _, hp.1, hp.2⟩
set_option maxHeartbeats 8000000 in
set_option maxRecDepth 100000 in
theorem grow_no (n : Int) (hn : 3 ≤ n ∧ n ≤ 8) (N : Nat) (ih : GrowIH n N) (all b : List S38) (fr : Nat) (A1 : Option Addr) (c1 : Nat) (Aa : Option Addr) (ca : Nat) (gn go ga gg : Nat) (v : Value) (xs : List (List S38)) (w0 w : World) (hN : all.length - fr < N + 1) (hfr : fr ≤ all.length) (hc1 : b.length ≤ c1) (hsum : b.length + (all.length - fr) ≤ 1000) (hall : all.length ≤ 1000) (hmax : xs.length + (lookT (n - 3) (all.drop fr) b).length ≤ 1099511627776) (hr2 : LkR go w v A1 b) (hE : GrEnv n gn go ga gg all Aa ca w v) (hL : Lk w0 go w v xs) (hc : ¬ (b.length : Int) = n - 3) :
  Calls Tryz.prog 27 (#[.slice A1 b.length c1, .int .i64 (fr : Int)] ++ #[.pointer (some ⟨gn, 0, none⟩), .pointer (some ⟨go, 0, none⟩), .pointer (some ⟨ga, 0, none⟩), .pointer (some ⟨gg, 0, none⟩)]) w (LkPost w0 go w v (xs ++ lookT (n - 3) (all.drop fr) b)) := by
 have hlook : lookT (n - 3) (all.drop fr) b = lookL (n - 3) (all.drop fr) b := by unfold lookT; rw [if_neg hc]
 rw [hlook] at hmax ⊢
 show Calls Tryz.prog 27 #[.slice A1 b.length c1, .int .i64 (fr : Int), .pointer (some ⟨gn, 0, none⟩), .pointer (some ⟨go, 0, none⟩), .pointer (some ⟨ga, 0, none⟩), .pointer (some ⟨gg, 0, none⟩)] w _
 have HN := Aside0.mk hsum
 have HM0 := Aside0.mk hmax
 have HN2 := Aside0.mk hN
 have HC1 := Aside0.mk hc1
 have hbe : ((b.length : Int) == n - 3) = false := by simpa using hc
 have hn0 : w.cell? ⟨gn, 0, none⟩ = some (.int .i64 n) := (blk_cell hE.bn 0).trans rfl
 have hsmall2 : b.length ≤ 1000 := by omega
 obtain ⟨n1, n2⟩ := hn
 have HL0 := Aside0.mk hL
 have HR0 := Aside0.mk hr2
 have HE0 := Aside0.mk hE
 have IH := Aside0.mk ih
 clear hr2 hL hlook hc hsum hmax hc1 hE hN ih
 go_enter Tryz.func27, Tryz.ntmps27
 go_wp2_with ((with_reducible refine gate_dst (N := 8) rfl ?_); refine bxe_ 8 #[.int .i64 0] 3 ?_; intro gi hg w9 hbox hb; have HX9 := Aside0.mk hbox; have HG9 := Aside0.mk hg; have HB9 := Aside0.mk hb; clear hbox hb hg; have hcz_0 := blc_ (.int .i64 0) HX9 0; have hfz_0 := blk_frozen HX9.out 0)
 generalize hwx : w9.setCell ⟨gi, 0, none⟩ (.int .i64 (fr : Int)) = wx
 have hbi : wx.heap[gi]? = some (.cells #[.int .i64 (fr : Int)] 3 (0, 0)) := by rw [← hwx]; exact blk_put (cs := #[.int .i64 0]) HX9.out 0 _ rfl
 have hbx : Below w.heap.size w wx := by rw [← hwx]; exact below_set HB9.out (Nat.le_of_eq HG9.out.symm)
 have HGI := Aside0.mk (Nat.le_of_eq HG9.out.symm : w.heap.size ≤ gi)
 have HBI := Aside0.mk hbi
 have HBX := Aside0.mk hbx
 clear hwx hbi hbx hcz_0 hfz_0 HX9 HG9 HB9 hn0
 go_loopg [8] (all.length + 1) (fun gg' s8 wr => ∃ (gi i : Nat) (v' : Value) (ys : List (List S38)), s8 = .pointer (some ⟨gi, 0, none⟩) ∧ i ≤ all.length ∧ Aside0 (all.length + 1 ≤ gg' + i) ∧ fr ≤ i ∧ Aside0 (wr.heap[gi]? = some (.cells #[.int .i64 i] 3 (0, 0))) ∧ Aside0 (w.heap.size ≤ gi) ∧ Aside0 (ys ++ lookL (n - 3) (all.drop i) b = xs ++ lookL (n - 3) (all.drop fr) b) ∧ Aside0 (Lk w0 go wr v' ys) ∧ Aside0 (LkTo go w v wr v'))
 case atStart => exact ⟨gi, fr, v, xs, rfl, hfr, ⟨by omega⟩, Nat.le_refl _, HBI, HGI, ⟨rfl⟩, ⟨HL0.out.below HBX.out⟩, ⟨(LkTo.refl go w v).below HBX.out⟩⟩
 case round =>
  clear HBI HGI HBX
  obtain ⟨gi, i, v1, ys, rfl, hi, HG, hfi, HBI, HGI, HEQ, HL1, HT1⟩ := hrel
  have HE1 := Aside0.mk (HE0.out.to HL0.out HT1.out)
  have HRB := Aside0.mk (HR0.out.to HT1.out)
  have hgi : wr.cell? ⟨gi, 0, none⟩ = some (.int .i64 i) := (blk_cell HBI.out 0).trans rfl
  have hga : wr.cell? ⟨ga, 0, none⟩ = some (.slice Aa all.length ca) := (blk_cell HE1.out.ba 0).trans rfl
  by_cases hlt : i < all.length
  ·have q0 : (i : Int) < (all.length : Int) := by omega
   have p0 : (0 : Int) ≤ (i : Int) := by omega
   obtain ⟨d, hd⟩ : ∃ d, rd_T38 all (i : Int) = d := ⟨_, rfl⟩
   have HS := Aside0.mk (lookL_step (n - 3) all b i hlt)
   rw [hd] at HS
   have HCF := Aside0.mk (ContainsFuncM38 (crossP d) 30 #[.pointer (some ⟨ga, 0, none⟩), .pointer (some ⟨gi, 0, none⟩)] (enters_of Tryz.func30 (by kernel_rfl) rfl) A1 c1 b wr HRB.out.c (fun W e _ hW => growLit_calls e d ga gi Aa ca all i hlt hd W ((hW.block _ (blk_lt HE1.out.ba)).trans HE1.out.ba) ((hW.block _ (blk_lt HBI.out)).trans HBI.out) (Kd.C_below HE1.out.ra.c hW)))
   cases hany : b.any (crossP d) with
   | true =>
    have HEQ2 := Aside0.mk (show ys ++ lookL (n - 3) (all.drop (i + 1)) b = xs ++ lookL (n - 3) (all.drop fr) b by rw [← HEQ.out, HS.out, if_pos hany, List.nil_append])
    rw [hany] at HCF
    clear HEQ HS hany
    go_wp2_with (first
     | (go_at_call 29; refine HCF.out.mono ?_; rintro e w5 ⟨rfl, hb5⟩; have HL3 := Aside0.mk (HL1.out.below hb5); have HT3 := Aside0.mk (HT1.out.below hb5); have hgi3 : w5.cell? ⟨gi, 0, none⟩ = some (.int .i64 i) := (hb5.cell (World.block_lt_of_cell? _ _ hgi)).trans hgi; clear hb5)
     | ((with_reducible refine gate_dst (N := 8) rfl ?_); refine bxe_ 8 #[.int .i64 0] 3 ?_; intro gk hgk w11 hbox hb; have HX11 := Aside0.mk hbox; have HG11 := Aside0.mk hgk; have HB11 := Aside0.mk hb; clear hbox hb hgk; have hcz_0 := blc_ (.int .i64 0) HX11 0; have hfz_0 := blk_frozen HX11.out 0))
    go_roundg (all.length - i)
    case measure => have := HG.out; omega
    case rel =>
     have hgk : w.heap.size ≤ gk := by rw [HG11.out]; exact HT3.out.kept.1
     have hgk0 : w0.heap.size ≤ gk := Nat.le_trans (below_size HL0.out.bel) hgk
     have l1 := Lk.below HL3.out HB11.out
     have l2 := Lk.set (u := .int .i64 i) l1 HX11.out hgk0
     have b2 := blk_put (cs := #[.int .i64 0]) HX11.out 0 (.int .i64 i) rfl
     have l3 := Lk.set (u := .int .i64 ((i + 1 : Nat) : Int)) l2 b2 hgk0
     have b3 := blk_put (cs := #[.int .i64 i]) b2 0 (.int .i64 ((i + 1 : Nat) : Int)) rfl
     have t3 := ((HT3.out.below HB11.out).set (u := .int .i64 i) hgk).set (u := .int .i64 ((i + 1 : Nat) : Int)) hgk
     refine ⟨gk, i + 1, v1, ys, rfl, by omega, ⟨by omega⟩, by omega, ⟨?_⟩, ⟨hgk⟩, HEQ2, ⟨?_⟩, ⟨?_⟩⟩
     ·first | exact b3 | simpa using b3
     ·first | exact l3 | simpa using l3
     ·first | exact t3 | simpa using t3
   | false =>
    have HEQ2 := Aside0.mk (show (ys ++ lookT (n - 3) (all.drop (i + 1)) (b ++ [d])) ++ lookL (n - 3) (all.drop (i + 1)) b = xs ++ lookL (n - 3) (all.drop fr) b by rw [← HEQ.out, HS.out, hany, if_neg (by simp), List.append_assoc])
    have HM := Aside0.mk (show ys.length + (lookT (n - 3) (all.drop (i + 1)) (b ++ [d])).length ≤ 1099511627776 by
     have h1 := congrArg List.length HEQ2.out
     have h2 := HM0.out
     simp only [List.length_append] at h1
     omega)
    have HW1 := Aside0.mk (show wrap64 ((i : Int) + 1) = ((i + 1 : Nat) : Int) by unfold wrap64; omega)
    rw [hany] at HCF
    clear HEQ HS hany
    go_wp2_with (go_at_call 29; refine HCF.out.mono ?_; rintro e w5 ⟨rfl, hb5⟩; have HL2 := Aside0.mk (HL1.out.below hb5); have HT2 := Aside0.mk (HT1.out.below hb5); have HE2 := Aside0.mk (HE1.out.below hb5); have HR3 := Aside0.mk (HRB.out.below hb5); have HBI2 := Aside0.mk ((hb5.block _ (blk_lt HBI.out)).trans HBI.out); clear hb5)
    have HB0 := Aside0.mk (below_drew (Below.refl w5.heap.size w5))
    have HL := Aside0.mk (Lk.below HL2.out HB0.out)
    have HT := Aside0.mk (HT2.out.below HB0.out)
    have HR2 := Aside0.mk (HR3.out.below HB0.out)
    have HE := Aside0.mk (HE2.out.below HB0.out)
    clear HBI hgi hga
    have HBI := Aside0.mk ((HB0.out.block _ (blk_lt HBI2.out)).trans HBI2.out)
    obtain ⟨ad, rfl, h6_3, h6_4⟩ := at_T38 HE.out.ra.c (i : Int) p0 q0
    simp only [Int.toNat_natCast] at h6_3 h6_4
    rw [hd] at h6_3 h6_4
    have h6_0 := (blk_cell HE.out.bg 0).trans rfl
    have h6_1 := (blk_cell HE.out.ba 0).trans rfl
    have h6_2 := (blk_cell HBI.out 0).trans rfl
    have hcut : ∀ W : World, (Instr.slice 27 (.slice A1 b.length c1) none (some (.int .i64 (b.length : Int))) (some (.int .i64 (b.length : Int)))).run Tryz.prog W = .ok (.slice A1 b.length b.length) W := cut3 A1 b.length c1 HC1.out hsmall2
    replace p0 := eq_true p0
    replace q0 := eq_true q0
    clear HL2 HT2 HR3 HE2 HB0 HBI2 HCF
    refine start_ (n := 16) (S := fun w' => w'.cell? ⟨gg, 0, none⟩ = some (.func (.func 27) #[] #[.pointer (some ⟨gn, 0, none⟩), .pointer (some ⟨go, 0, none⟩), .pointer (some ⟨ga, 0, none⟩), .pointer (some ⟨gg, 0, none⟩)]) ∧ w'.cell? ⟨ga, 0, none⟩ = some (.slice (some ad) all.length ca) ∧ w'.cell? ⟨gi, 0, none⟩ = some (.int .i64 i) ∧ w'.cell? (ad.add (i * 2)) = some (.int .i64 d.f0) ∧ w'.cell? ⟨(ad.add (i * 2)).block, (ad.add (i * 2)).off + 1, none⟩ = some (.int .i64 d.f1)) (ds := [15]) #[false, false, false, false, false, false, false, false, false, false, false, false, false, false, false, false] (by kernel_rfl) rfl rfl ⟨h6_0, h6_1, h6_2, h6_3, h6_4⟩ (fun hHeld => ?_)
    refine with_tabW grow.tab6 grow.bits6 (fun HT_ HW_ => ?_)
    generalize w5.drew = wa at HL HT HR2 HE HBI hHeld ⊢
    refine pux_ 1 31 HT_ ?_
    refine pux_ 2 32 HT_ ?_
    refine pux_ 3 33 HT_ ?_
    refine pux_ 4 34 HT_ ?_
    refine pux_ 5 35 HT_ ?_
    refine pux_ 6 36 HT_ ?_
    refine tak_ 0 30 HT_ HW_ hHeld ?_
    refine tak_ 7 37 HT_ HW_ hHeld ?_
    refine tak_ 8 38 HT_ HW_ hHeld ?_
    refine pux_ 9 39 HT_ ?_
    refine tak_ 10 40 HT_ HW_ hHeld ?_
    refine tak_ 13 43 HT_ HW_ hHeld ?_
    refine pux_ 14 44 HT_ ?_
    refine oner_ 11 41 HT_ (fun K hK => ?_)
    have HS6 := Aside0.mk hHeld
    refine Kd.R_lit_step k38 (w0 := wa) wa.heap.size 38 ?hg (N := 41) ?hd (xs := ([d] : List S38)) (inner := [.int .i64 d.f0, .int .i64 d.f1]) (ok := fun _ => True) (okp := fun _ => True) ?hr ?hp (fun _ hk => hk) trivial (Below.refl _ _) (Nat.le_refl _) (by simp) ?_; (case hd => rfl); (case hg => rfl); (case hr => first | (go_simp; done) | (go_simp; rfl)); (case hp => exact (Reps.c2 (show Kd.M k38 _ _ _ d [.int .i64 d.f0, .int .i64 d.f1] from (k38_mkM _ _ _ d)) (Reps.none _ _)))
    intro v41 w41 ho41 hb41 hg41_ hn41_
    clear hg41_ hn41_
    obtain ⟨A41, c41, rfl⟩ := Kd.R_slice ho41
    obtain ⟨ad41, e41_, hc41_⟩ := (Kd.R_reads' ho41).2.2.2.2 (by simp)
    subst e41_
    have HC41 := Aside0.mk (hc41_ 0 d rfl)
    have HB41 := Aside0.mk hb41
    clear ho41 hb41 hc41_
    refine hK.out _ _ ⟨(HB41.out.cell (World.block_lt_of_cell? _ _ (HS6.out.1))).trans (HS6.out.1), (HB41.out.cell (World.block_lt_of_cell? _ _ (HS6.out.2.1))).trans (HS6.out.2.1), (HB41.out.cell (World.block_lt_of_cell? _ _ (HS6.out.2.2.1))).trans (HS6.out.2.2.1), (HB41.out.cell (World.block_lt_of_cell? _ _ (HS6.out.2.2.2.1))).trans (HS6.out.2.2.2.1), (HB41.out.cell (World.block_lt_of_cell? _ _ (HS6.out.2.2.2.2))).trans (HS6.out.2.2.2.2)⟩ (fun hHeld => ?_)
    clear hK K
    refine nor_ 41 ?_
    refine oner_ 12 42 HT_ (fun K hK => ?_)
    obtain ⟨i0_, hi0_, hz1_, hz2_, hz3_⟩ := info_parts info38
    obtain ⟨c41_, hcl_, hck_, hcc_⟩ := HC41.out
    obtain rfl := k38_open hck_
    refine step_append_grows rfl (.tmp 36) (.tmp 41) 27 rfl 38 i0_ (.agg #[(.int .i64 0), (.int .i64 0)]) 2 16 Tryz.underlying27 hi0_ hz1_ hz2_ hz3_ rfl (by decide) A1 b.length b.length (cellsOf b) rfl ?yn (cellsOf_len b) ?yo ad41 1 c41 [.int .i64 d.f0, .int .i64 d.f1] rfl (by rfl) ?yc ?y1 (by omega) (by unfold maxLen; omega) (by omega) ?_
    (case yn => exact fun e_ => by have h_ := HR2.out.c; rw [e_] at h_; refine (fun h0_ => ⟨h0_, h0_⟩ : b.length = 0 → b.length = 0 ∧ b.length = 0) ?_; rcases Nat.eq_zero_or_pos b.length with h1_ | h1_; exact h1_; obtain ⟨x_, hx_, _⟩ := h_.2.2 h1_; cases hx_)
    (case yo => exact fun b_ e_ j_ u_ hj_ => by have h_ := Kd.C_below HR2.out.c HB41.out; rw [e_] at h_; exact cellsOf_at h_ j_ u_ hj_)
    (case yc => exact fun j_ u_ hj_ => by have h_ := hcc_ j_ u_ hj_; rw [Nat.zero_mul, Nat.zero_add] at h_; exact h_)
    (case y1 => exact fun u_ hu_ => k38.K_one (k38_mk w41 d) u_ hu_)
    intro v42 w42 hown42 hg42
    have ho42 : Kd.R k38 38 w42 wa.heap.size (fun _ => True) v42 (b ++ [d]) := ⟨fun _ _ => trivial, _, own_weaken (by rw [List.length_append, List.length_singleton]; exact hown42) (below_size HB41.out), by have h_ := cellsOf_reps (W := w42) (base := wa.heap.size) (ok := fun k_ => True ∧ some k_ ≠ v42.ownBlock) (b ++ [d]); unfold cellsOf at h_; rw [List.flatMap_append] at h_; exact h_⟩
    have hb42 : Below wa.heap.size wa w42 := HB41.out.grown hg42 (below_size HB41.out) (fun _ h_ => by cases h_)
    obtain ⟨A42, c42, rfl⟩ := Kd.R_slice ho42
    have HO42 := Aside0.mk ho42
    have HB42 := Aside0.mk hb42
    clear ho42 hb42 hown42 hg42 hi0_ hz1_ hz2_ hz3_ hcl_ hck_ hcc_
    refine hK.out _ _ ⟨(HB42.out.cell (World.block_lt_of_cell? _ _ (HS6.out.1))).trans (HS6.out.1), (HB42.out.cell (World.block_lt_of_cell? _ _ (HS6.out.2.1))).trans (HS6.out.2.1), (HB42.out.cell (World.block_lt_of_cell? _ _ (HS6.out.2.2.1))).trans (HS6.out.2.2.1), (HB42.out.cell (World.block_lt_of_cell? _ _ (HS6.out.2.2.2.1))).trans (HS6.out.2.2.2.1), (HB42.out.cell (World.block_lt_of_cell? _ _ (HS6.out.2.2.2.2))).trans (HS6.out.2.2.2.2)⟩ (fun hHeld => ?_)
    clear hK K
    refine nor_ 42 ?_
    refine last_ (i := 15) (N := some 45) #[true, true, true, true, true, true, true, true, true, true, true, true, true, true, true, true] rfl rfl (one_of HT_.out (by kernel_rfl)) (by decide) (fun K hK => ?_)
    have hcall := IH.out all (b ++ [d]) (i + 1) A42 c42 (some ad) ca gn go ga gg v1 ys w0 w42 (by have := HN2.out; omega) (by omega) (Kd.R_reads' HO42.out).2.1 (by rw [List.length_append, List.length_singleton]; have := HN.out; omega) hall HM.out (LkR.new HL.out HO42.out) (HE.out.below HB42.out) (Lk.below HL.out HB42.out)
    have HCALL := Aside0.mk hcall
    clear hcall
    refine goesV_ Tryz.func27 (by kernel_rfl) rfl #[.slice A42 (b ++ [d]).length c42, .int .i64 (wrap64 ((i : Int) + 1)), .pointer (some ⟨gn, 0, none⟩), .pointer (some ⟨go, 0, none⟩), .pointer (some ⟨ga, 0, none⟩), .pointer (some ⟨gg, 0, none⟩)] (by rfl) rfl rfl (by rfl) (by (try simp only [List.map_toArray, List.map_cons, List.map_nil]); first | done | rfl | (simp only [List.length_append, List.length_cons, List.length_nil, Nat.zero_add]; rfl)) ?_
    rw [HW1.out]
    refine HCALL.out.mono ?_
    rintro e w62 ⟨rfl, v62, hl62, ht62⟩
    refine ⟨_, rfl, ?_⟩
    have HL3 := Aside0.mk hl62
    have HT3 := Aside0.mk ((HT.out.below HB42.out).trans ht62)
    have hgi3 : w62.cell? ⟨gi, 0, none⟩ = some (.int .i64 i) := (blk_cell ((ht62.kept.2 gi (by rw [show (w42.heap.size) = w42.heap.size from rfl]; exact blk_lt ((HB42.out.block gi (blk_lt HBI.out)).trans HBI.out)) (fun e_ => e_.elim (fun e2_ => blk_ne ((HB42.out.block gi (blk_lt HBI.out)).trans HBI.out) (Lk.below HL.out HB42.out).box (by decide) e2_) (fun e2_ => gr_ne (Lk.below HL.out HB42.out) ((HB42.out.block gi (blk_lt HBI.out)).trans HBI.out) (by decide) e2_))).trans ((HB42.out.block gi (blk_lt HBI.out)).trans HBI.out)) 0).trans rfl
    clear hl62 ht62 HCALL
    refine hK.out _ _ ?_
    clear hK K
    refine nor_ 45 ?_
    refine done_ (done_of HT_.out (by kernel_rfl)) ?_
    go_wp2_with ((with_reducible refine gate_dst (N := 8) rfl ?_); refine bxe_ 8 #[.int .i64 0] 3 ?_; intro gk hgk w11 hbox hb; have HX11 := Aside0.mk hbox; have HG11 := Aside0.mk hgk; have HB11 := Aside0.mk hb; clear hbox hb hgk; have hcz_0 := blc_ (.int .i64 0) HX11 0; have hfz_0 := blk_frozen HX11.out 0)
    go_roundg (all.length - i)
    case measure => have := HG.out; omega
    case rel =>
     have hgk : w.heap.size ≤ gk := by rw [HG11.out]; exact HT3.out.kept.1
     have hgk0 : w0.heap.size ≤ gk := Nat.le_trans (below_size HL0.out.bel) hgk
     have l1 := Lk.below HL3.out HB11.out
     have l2 := Lk.set (u := .int .i64 i) l1 HX11.out hgk0
     have b2 := blk_put (cs := #[.int .i64 0]) HX11.out 0 (.int .i64 i) rfl
     have l3 := Lk.set (u := .int .i64 ((i + 1 : Nat) : Int)) l2 b2 hgk0
     have b3 := blk_put (cs := #[.int .i64 i]) b2 0 (.int .i64 ((i + 1 : Nat) : Int)) rfl
     have t3 := ((HT3.out.below HB11.out).set (u := .int .i64 i) hgk).set (u := .int .i64 ((i + 1 : Nat) : Int)) hgk
     refine ⟨gk, i + 1, v62, ys ++ lookT (n - 3) (all.drop (i + 1)) (b ++ [d]), rfl, by omega, ⟨by omega⟩, by omega, ⟨?_⟩, ⟨hgk⟩, HEQ2, ⟨?_⟩, ⟨?_⟩⟩
     ·first | exact b3 | simpa using b3
     ·first | exact l3 | simpa using l3
     ·first | exact t3 | simpa using t3
  ·have hltz : ¬ (i : Int) < (all.length : Int) := by omega
   go_wp2
   refine bodyPost_ret (results_none rfl _ _ _) rfl ?_
   have he := HEQ.out
   rw [List.drop_of_length_le (show all.length ≤ i by omega), show lookL (n - 3) [] b = [] from rfl, List.append_nil] at he
   exact ⟨rfl, v1, by rw [← he]; exact HL1.out, HT1.out⟩

theorem grow_calls (n : Int) (hn : 3 ≤ n ∧ n ≤ 8) : ∀ N : Nat, GrowIH n N := by
 intro N
 induction N with
 | zero =>
  intro all b fr A1 c1 Aa ca gn go ga gg v xs w0 w hN
  omega
 | succ N ih =>
  intro all b fr A1 c1 Aa ca gn go ga gg v xs w0 w hN hfr hc1 hsum hall hmax hr2 hE hL
  by_cases hc : (b.length : Int) = n - 3
  ·exact grow_yes n hn all b fr A1 c1 Aa ca gn go ga gg v xs w0 w hfr hc1 hsum hall hmax hr2 hE hL hc
  ·exact grow_no n hn N ih all b fr A1 c1 Aa ca gn go ga gg v xs w0 w hN hfr hc1 hsum hall hmax hr2 hE hL hc

def impl_allTriangulations.f (k : Nat) (a0 : Int) : Option (List (List S38)) := (impl_allDiagonals.f k a0).bind fun ds => if 3 ≤ a0 ∧ a0 ≤ 8 ∧ ds.length ≤ 20 then some (lookT (a0 - 3) ds []) else none
theorem impl_allTriangulations.mono : ∀ a0 k, LeO (impl_allTriangulations.f k a0) (impl_allTriangulations.f (k + 1) a0) := by
 intro a0 k
 unfold impl_allTriangulations.f
 exact LeO.bind (impl_allDiagonals.mono _ _) (fun _ => LeO.refl _)
theorem allT_start (a0 : Int) (gn go ga : Nat) (A6 A8 : Option Addr) (c6 c8 : Nat) (t : List S38) (w w5 : World) (hn : w5.heap[gn]? = some (.cells #[.int .i64 a0] 3 (0, 0))) (ho : w5.heap[go]? = some (.cells #[.slice none 0 0] 43 (0, 0))) (ha : w5.heap[ga]? = some (.cells #[.slice none 0 0] 27 (0, 0)))
  (hS : Kd.S (Kd.slice 38 k38) 27 w5 w.heap.size (fun k => k ≠ ga) (.slice A6 0 c6) []) (hD : Kd.R k38 38 w5 w.heap.size (fun _ => True) (.slice A8 t.length c8) t) (hB : Below w.heap.size w w5) (h1 : w.heap.size ≤ go) (h2 : w.heap.size ≤ ga) (hne : go ≠ ga) (hV : some ga ≠ (Value.slice A6 0 c6).ownBlock) :
  Lk w go (((w5.setCell ⟨go, 0, none⟩ (.slice A6 0 c6)).setCell ⟨ga, 0, none⟩ (.slice A8 t.length c8)).alloc (.cells #[.func (.func 27) #[] #[.pointer (some ⟨gn, 0, none⟩), .pointer (some ⟨go, 0, none⟩), .pointer (some ⟨ga, 0, none⟩), .pointer (some ⟨w5.heap.size, 0, none⟩)]] 51)) (.slice A6 0 c6) [] ∧
  GrEnv a0 gn go ga w5.heap.size t A8 c8 (((w5.setCell ⟨go, 0, none⟩ (.slice A6 0 c6)).setCell ⟨ga, 0, none⟩ (.slice A8 t.length c8)).alloc (.cells #[.func (.func 27) #[] #[.pointer (some ⟨gn, 0, none⟩), .pointer (some ⟨go, 0, none⟩), .pointer (some ⟨ga, 0, none⟩), .pointer (some ⟨w5.heap.size, 0, none⟩)]] 51)) (.slice A6 0 c6) := by
 have o1 := blk_put (cs := #[.slice none 0 0]) ho 0 (.slice A6 0 c6) rfl
 have a1 := blk_far ha (p := ⟨go, 0, none⟩) (Ne.symm hne) (.slice A6 0 c6)
 have n1 := blk_far hn (p := ⟨go, 0, none⟩) (blk_ne hn ho (by decide)) (.slice A6 0 c6)
 have o2 := blk_far o1 (p := ⟨ga, 0, none⟩) hne (.slice A8 t.length c8)
 have a2 := blk_put (cs := #[.slice none 0 0]) a1 0 (.slice A8 t.length c8) rfl
 have n2 := blk_far n1 (p := ⟨ga, 0, none⟩) (blk_ne hn ha (by decide)) (.slice A8 t.length c8)
 have s1 := Kd.S_set hS ho (by decide) 0 (.slice A6 0 c6)
 have s2 := Kd.S_far s1 (p := ⟨ga, 0, none⟩) (fun k hk => hk) (.slice A8 t.length c8)
 have d1 := Kd.R_set hD ho (by decide) 0 (.slice A6 0 c6)
 have d2 := Kd.R_set d1 a1 (by decide) 0 (.slice A8 t.length c8)
 have b1 := below_set (j := 0) (v := .slice A6 0 c6) hB h1
 have b2 := below_set (j := 0) (v := .slice A8 t.length c8) b1 h2
 refine ⟨⟨blk_alloc o2 _, Kd.S_mono (Kd.S_alloc s2 _) (fun _ _ => trivial), below_alloc b2 _, h1⟩, ⟨blk_alloc n2 _, blk_alloc a2 _, ?_, ⟨(Kd.R_reads' (Kd.R_alloc d2 _)).2.2, ?_⟩, (Kd.R_reads' hD).2.1, hV⟩⟩
 ·have h := blk_new ((w5.setCell ⟨go, 0, none⟩ (.slice A6 0 c6)).setCell ⟨ga, 0, none⟩ (.slice A8 t.length c8)) (.cells #[.func (.func 27) #[] #[.pointer (some ⟨gn, 0, none⟩), .pointer (some ⟨go, 0, none⟩), .pointer (some ⟨ga, 0, none⟩), .pointer (some ⟨w5.heap.size, 0, none⟩)]] 51)
  have e : ((w5.setCell ⟨go, 0, none⟩ (.slice A6 0 c6)).setCell ⟨ga, 0, none⟩ (.slice A8 t.length c8)).heap.size = w5.heap.size := by simp [World.setCell]
  rw [e] at h
  exact h
 ·intro a ea _
  subst ea
  obtain ⟨g, rfl⟩ := Kd.R_head hD
  obtain ⟨cells, hc⟩ := Kd.R_typed hD g rfl
  refine ⟨fun e => ?_, fun e => ?_⟩
  ·have e : g = go := e
   exact blk_ne hc ho (by decide) e
  ·obtain ⟨cells2, hc2⟩ := Kd.S_typed hS g e.symm
   rw [hc] at hc2
   injection hc2 with hc2
   injection hc2 with _ ht
   exact absurd ht (by decide)
set_option maxHeartbeats 8000000 in
set_option maxRecDepth 100000 in
theorem impl_allTriangulations.calls (k : Nat) (a0 : Int) (r : List (List S38)) (w : World) (h : impl_allTriangulations.f k a0 = some r) :
  Calls Tryz.prog 18 #[.int .i64 a0] w fun e w' => ∃ v0_ : Value, e = .returned (v0_) ∧ Kd.S (Kd.slice 38 k38) 27 w' w.heap.size (fun _ => True) v0_ r ∧ Below w.heap.size w w' := by
 have H : ((impl_allDiagonals.f k a0).bind fun ds => if 3 ≤ a0 ∧ a0 ≤ 8 ∧ ds.length ≤ 20 then some (lookT (a0 - 3) ds []) else none) = some r := h
 clear h
 obtain ⟨t, ht, H⟩ := Option.bind_eq_some_iff.mp H
 by_cases hn : 3 ≤ a0 ∧ a0 ≤ 8 ∧ t.length ≤ 20
 ·rw [if_pos hn] at H
  obtain rfl := Option.some.inj H
  clear H
  have hle : (lookT (a0 - 3) t []).length ≤ 1048576 := by
   have h2 := lookL_le (a0 - 3) t []
   have h3 : 2 ^ t.length ≤ 2 ^ 20 := Nat.pow_le_pow_right (by omega) hn.2.2
   have h4 : (2 : Nat) ^ 20 = 1048576 := by decide
   unfold lookT
   split
   ·simp
   ·omega
  have hkey : ∀ (gn go ga gg : Nat) (Aa : Option Addr) (ca : Nat) (v : Value) (W : World), Lk w go W v [] → GrEnv a0 gn go ga gg t Aa ca W v →
    Calls Tryz.prog 27 #[.slice none 0 0, .int .i64 0, .pointer (some ⟨gn, 0, none⟩), .pointer (some ⟨go, 0, none⟩), .pointer (some ⟨ga, 0, none⟩), .pointer (some ⟨gg, 0, none⟩)] W fun e w7 => e = .returned (.tuple #[]) ∧ ∃ v', Lk w go w7 v' (lookT (a0 - 3) t []) := by
   intro gn go ga gg Aa ca v W hL hE
   have h1 := grow_calls a0 ⟨hn.1, hn.2.1⟩ (t.length + 1) t [] 0 none 0 Aa ca gn go ga gg v [] w W (by omega) (Nat.zero_le _) (by simp) (by have := hn.2.2; simp; omega) (by omega) (by rw [List.drop_zero]; simp; omega) ⟨Kd.C_nil _ _, fun a ha => by cases ha⟩ hE hL
   rw [List.drop_zero] at h1
   refine Calls.mono h1 ?_
   rintro e w7 ⟨rfl, v', hl, _⟩
   exact ⟨rfl, v', hl⟩
  have HK := Aside0.mk hkey
  have HT := Aside0.mk ht
  have HB0 := Aside0.mk (Below.refl w.heap.size w)
  have HLE := Aside0.mk hn.2.2
  clear hkey ht hle hn
  go_enter Tryz.func18, Tryz.ntmps18
  go_wp2_with (first
   | ((with_reducible refine gate_dst (N := 1) rfl ?_); refine bxe_ 1 #[.int .i64 a0] 3 ?_; intro gn hg w1 hbox hb; have HN1 := Aside0.mk hbox; have HB1 := Aside0.mk hb; have hc1 : w1.cell? ⟨gn, 0, none⟩ = some (.int .i64 a0) := (blk_cell HN1.out 0).trans rfl; clear hbox hb hg HB0)
   | ((with_reducible refine gate_dst (N := 6) rfl ?_); refine Kd.R_lit (Kd.tag (fun _ => 0) (Kd.slice 38 k38)) (w0 := w1) w1.heap.size 27 ?hg (N := 6) ?hd (xs := ([] : List (List S38 × Nat))) (inner := []) (ok := fun _ => True) (okp := fun _ => True) ?hr ?hp (fun _ hk => hk) trivial (Below.refl _ _) (Nat.le_refl _) (by simp) ?_; (case hd => rfl); (case hg => rfl); (case hr => first | (go_simp; done) | (go_simp; rfl)); (case hp => exact (Reps.none _ _)); intro v6 w2 ho2 hb2 hg_ hnew_; clear hg_ hnew_; have HO2 := Aside0.mk (show Kd.S (Kd.slice 38 k38) 27 w2 w.heap.size (fun _ => True) v6 [] from Kd.S_lower ⟨fun _ => 0, ho2⟩ (below_size HB1.out)); have HB2 := Aside0.mk (below_then HB1.out (below_size HB1.out) hb2); have HN2 := Aside0.mk ((hb2.block _ (blk_lt HN1.out)).trans HN1.out); have hc2 : w2.cell? ⟨gn, 0, none⟩ = some (.int .i64 a0) := (blk_cell HN2.out 0).trans rfl; clear ho2 hb2)
   | (go_at_call 26; refine (impl_allDiagonals.calls k a0 t _ HT.out).mono ?_; rintro e w3 ⟨v8, rfl, ho3, hb3⟩; obtain ⟨A8, c8, rfl⟩ := Kd.R_slice ho3; have HD3 := Aside0.mk (Kd.R_lower ho3 (below_size HB2.out)); have HO3 := Aside0.mk (Kd.S_below HO2.out hb3); have HB3 := Aside0.mk (below_then HB2.out (below_size HB2.out) hb3); have HN3 := Aside0.mk ((hb3.block _ (blk_lt HN2.out)).trans HN2.out); clear ho3 hb3)
   | ((with_reducible refine gate_dst (N := 3) rfl ?_); refine bxe_ 3 #[.slice none 0 0] 43 ?_; intro go hgo w4 hbox hb4; have HX4 := Aside0.mk hbox; have HGO := Aside0.mk (show w.heap.size ≤ go by rw [hgo]; exact below_size HB3.out); have HD4 := Aside0.mk (Kd.R_below HD3.out hb4); have HO4 := Aside0.mk (Kd.S_below HO3.out hb4); have HB4 := Aside0.mk (below_then HB3.out (below_size HB3.out) hb4); have HN4 := Aside0.mk ((hb4.block _ (blk_lt HN3.out)).trans HN3.out); clear hbox hb4 hgo)
   | ((with_reducible refine gate_dst (N := 4) rfl ?_); refine bxe_ 4 #[.slice none 0 0] 27 ?_; intro ga hga w5 hbox hb5; have HX5 := Aside0.mk hbox; have HG5 := Aside0.mk (show w.heap.size ≤ ga by rw [hga]; exact below_size HB4.out); have HD5 := Aside0.mk (Kd.R_below HD4.out hb5); have HO5 := Aside0.mk (Kd.S_mono (ok' := fun k_ => k_ ≠ ga) (Kd.S_below (Kd.S_bound HO4.out) hb5) (fun k_ hk_ e_ => by have := hk_.2.2.1; omega)); have HV5 := Aside0.mk (show some ga ≠ v6.ownBlock from fun e_ => by have := Kd.S_lt HO4.out ga e_.symm; omega); have HB5 := Aside0.mk (below_then HB4.out (below_size HB4.out) hb5); have HN5 := Aside0.mk ((hb5.block _ (blk_lt HN4.out)).trans HN4.out); have HXO := Aside0.mk ((hb5.block _ (blk_lt HX4.out)).trans HX4.out); have hco : w5.cell? ⟨go, 0, none⟩ = some (.slice none 0 0) := (blk_cell HXO.out 0).trans rfl; have hfo := blk_frozen HXO.out 0; have hca : w5.cell? ⟨ga, 0, none⟩ = some (.slice none 0 0) := (blk_cell HX5.out 0).trans rfl; have hfa := blk_frozen HX5.out 0; have hne1 : go ≠ ga := (fun e_ => by have := blk_lt HX4.out; omega); have hne2 : ga ≠ go := Ne.symm hne1; clear hbox hb5 hga; obtain ⟨A6, c6, rfl⟩ := Kd.S_slice HO5.out))
  have hst := allT_start a0 gn go ga A6 A8 c6 c8 t w w5 HN5.out HXO.out HX5.out HO5.out HD5.out HB5.out HGO.out HG5.out hne1 HV5.out
  have HCALL := Aside0.mk (HK.out gn go ga w5.heap.size A8 c8 (.slice A6 0 c6) _ hst.1 hst.2)
  clear hst
  refine HCALL.out.mono ?_
  clear HCALL
  rintro e w7 ⟨rfl, v7, hl7⟩
  have hx7 : w7.cell? ⟨go, 0, none⟩ = some v7 := (blk_cell hl7.box 0).trans rfl
  have HL7 := Aside0.mk hl7
  clear hl7 hco hfo hca hfa
  go_wp2
  go_ret
  exact ⟨v7, rfl, HL7.out.row, HL7.out.bel⟩
 ·rw [if_neg hn] at H
  cases H

end Go.Proofs.YtgblginphicacaaGreatDoor.PFnExactCountByFlips
