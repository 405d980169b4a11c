-- WRITTEN BY A PROGRAM OF THIS WORK (wip/tools/ppatch.py) for this claim.
import Derived.Test.YtgblginphicacaaGreatDoorPFnExactCountByFlipsx0
import Derived.Test.YtgblginphicacaaGreatDoorPFnExactCountByFlipsx2
namespace Go.Proofs.YtgblginphicacaaGreatDoor.PFnExactCountByFlips
open Go.RowKit Go.Proofs.YtgblginphicacaaGreatDoorW.PrintWords Go.Proofs.YtgblginphicacaaGreatDoorW.PrintLast Go.Proofs.YtgblginphicacaaGreatDoorW.PrintMore
attribute [local go_sem] max2_int min2_int max_two min_two max_three min_three max_four min_four   -- for this text's walks alone
set_option linter.unusedVariables false
set_option linter.unusedSimpArgs false

/-! ### spec_poAll: function 22 -/
def crossP (d e : S38) : Bool := decide (d.f0 < e.f0 ∧ e.f0 < d.f1 ∧ d.f1 < e.f1) || decide (e.f0 < d.f0 ∧ d.f0 < e.f1 ∧ e.f1 < d.f1)
/-- All ways to go on from b by elements of the list, in order, till there are m. -/
def lookL (m : Int) : List S38 → List S38 → List (List S38)
 | [], _ => []
 | d :: r, b => (if b.any (crossP d) = true then [] else if ((b ++ [d]).length : Int) = m then [b ++ [d]] else lookL m r (b ++ [d])) ++ lookL m r b
def lookT (m : Int) (r b : List S38) : List (List S38) := if (b.length : Int) = m then [b] else lookL m r b
theorem lookL_cons (m : Int) (d : S38) (r b : List S38) : lookL m (d :: r) b = (if b.any (crossP d) = true then [] else lookT m r (b ++ [d])) ++ lookL m r b := rfl
theorem lookL_le (m : Int) : ∀ (r b : List S38), (lookL m r b).length + 1 ≤ 2 ^ r.length
 | [], _ => Nat.le_refl _
 | d :: r, b => by
  have h1 := lookL_le m r b
  have h2 := lookL_le m r (b ++ [d])
  have h3 : 1 ≤ 2 ^ r.length := Nat.one_le_two_pow
  have h4 : 2 ^ (r.length + 1) = 2 ^ r.length * 2 := Nat.pow_succ ..
  rw [lookL_cons, List.length_append, List.length_cons, h4]
  unfold lookT
  split
  ·simp only [List.length_nil]
   omega
  ·split
   ·simp only [List.length_singleton]
    omega
   ·omega
theorem lookL_step (m : Int) (all b : List S38) (i : Nat) (h : i < all.length) : lookL m (all.drop i) b = (if b.any (crossP (rd_T38 all (i : Int))) = true then [] else lookT m (all.drop (i + 1)) (b ++ [rd_T38 all (i : Int)])) ++ lookL m (all.drop (i + 1)) b := by
 have e : rd_T38 all (i : Int) = all[i] := by
  unfold rd_T38
  rw [Int.toNat_natCast, List.getD_eq_getElem?_getD, List.getElem?_eq_getElem h]
  rfl
 rw [List.drop_eq_getElem_cons h, lookL_cons, e]
theorem look_any (d : S38) (b : List S38) (j : Nat) (h : j < b.length) : (b.drop j).all (fun e => !crossP d e) = (!crossP d (rd_T38 b (j : Int)) && (b.drop (j + 1)).all (fun e => !crossP d e)) := by
 have e : rd_T38 b (j : Int) = b[j] := by
  unfold rd_T38
  rw [Int.toNat_natCast, List.getD_eq_getElem?_getD, List.getElem?_eq_getElem h]
  rfl
 rw [List.drop_eq_getElem_cons h, List.all_cons, e]
theorem look_all (d : S38) (b : List S38) : b.all (fun e => !crossP d e) = !(b.any (crossP d)) := by
 induction b with
 | nil => rfl
 | cons x r ih => rw [List.all_cons, List.any_cons, ih, Bool.not_or]
/-- The list that is being made: the box's content v, the lists xs; what was there ahead of w0 stands. -/
structure Lk (w0 : World) (gb : Nat) (w : World) (v : Value) (xs : List (List S38)) : Prop where
 box : w.heap[gb]? = some (.cells #[v] 43 (0, 0))
 row : Kd.S (Kd.slice 38 k38) 27 w w0.heap.size (fun _ => True) v xs
 bel : Below w0.heap.size w0 w
 gbe : w0.heap.size ≤ gb
/-- Whatever else was there stands; v' is where v was, or newer. -/
structure LkTo (gb : Nat) (w : World) (v : Value) (w' : World) (v' : Value) : Prop where
 kept : Kept w w' (fun k => k = gb ∨ some k = v.ownBlock)
 own : v'.ownBlock = v.ownBlock ∨ ∃ b, v'.ownBlock = some b ∧ w.heap.size ≤ b
/-- A list that is read, apart from the list that is being made. -/
structure LkR (gb : Nat) (w : World) (v : Value) (A : Option Addr) (l : List S38) : Prop where
 c : Kd.C k38 w A l.length l
 far : ∀ a, A = some a → l ≠ [] → a.block ≠ gb ∧ some a.block ≠ v.ownBlock
theorem lk_add (a : Addr) (n : Nat) : (a.add n).block = a.block := by
 unfold Addr.add
 split <;> rfl
theorem lk_blk {w : World} {A : Option Addr} {l : List S38} (h : Kd.C k38 w A l.length l) (hne : l ≠ []) (a : Addr) (ha : A = some a) : a.block < w.heap.size := by
 have hp := List.length_pos_iff.2 hne
 obtain ⟨ad, e, hc⟩ := h.2.2 hp
 rw [ha] at e
 injection e with e
 subst e
 obtain ⟨c, hs, hr, hcell⟩ := hc 0 _ (List.getElem?_eq_getElem hp)
 obtain rfl := k38_open hr
 have h1 := World.block_lt_of_cell? w _ (hcell 0 _ rfl)
 rwa [lk_add] at h1
theorem lk_move {w w1 : World} {A : Option Addr} {l : List S38} (h : Kd.C k38 w A l.length l) (hne : ∀ a, l ≠ [] → A = some a → a.block < w.heap.size → w1.heap[a.block]? = w.heap[a.block]?) : Kd.C k38 w1 A l.length l := by
 refine ⟨h.1, h.2.1, fun hn => ?_⟩
 obtain ⟨ad, e, hc⟩ := h.2.2 hn
 refine ⟨ad, e, fun j p hj => ?_⟩
 obtain ⟨c, hs, hr, hcell⟩ := hc j p hj
 have hr2 : k38.K w1 p c := by
  obtain rfl := k38_open hr
  exact k38_mk w1 p
 refine ⟨c, hs, hr2, fun i u hu => ?_⟩
 have h1 := hcell i u hu
 have h2 := World.block_lt_of_cell? w _ h1
 rw [lk_add] at h2
 have h3 : w1.cell? (ad.add (j * k38.sz + i)) = w.cell? (ad.add (j * k38.sz + i)) := World.cell?_of_block (by rw [lk_add]; exact hne ad (List.length_pos_iff.1 hn) e h2)
 exact h3.trans h1
theorem LkTo.refl (gb : Nat) (w : World) (v : Value) : LkTo gb w v w v := ⟨Kept.refl _ _, .inl rfl⟩
theorem LkTo.trans {gb : Nat} {w w1 w2 : World} {v v1 v2 : Value} (h : LkTo gb w v w1 v1) (k : LkTo gb w1 v1 w2 v2) : LkTo gb w v w2 v2 := by
 refine ⟨h.kept.then_ k.kept (fun k hk => ?_), ?_⟩
 ·rcases hk with hk | hk
  ·exact .inl (.inl hk)
  ·rcases h.own with h1 | ⟨b, h1, h2⟩
   ·exact .inl (.inr (hk.trans h1))
   ·rw [h1] at hk
    injection hk with hk
    exact .inr (by omega)
 ·rcases k.own with k1 | ⟨b, k1, k2⟩
  ·rcases h.own with h1 | ⟨b, h1, h2⟩
   ·exact .inl (k1.trans h1)
   ·exact .inr ⟨b, k1.trans h1, h2⟩
  ·exact .inr ⟨b, k1, Nat.le_trans h.kept.1 k2⟩
theorem LkTo.below {gb : Nat} {w w1 w2 : World} {v v1 : Value} (h : LkTo gb w v w1 v1) (hb : Below w1.heap.size w1 w2) : LkTo gb w v w2 v1 := ⟨h.kept.below hb, h.own⟩
theorem LkR.to {gb : Nat} {w w1 : World} {v v1 : Value} {A : Option Addr} {l : List S38} (h : LkR gb w v A l) (k : LkTo gb w v w1 v1) : LkR gb w1 v1 A l := by
 refine ⟨lk_move h.c (fun a hn ha hl => k.kept.2 _ hl (fun he => ?_)), fun a ha hn => ⟨(h.far a ha hn).1, fun he => ?_⟩⟩
 ·rcases he with he | he
  ·exact (h.far a ha hn).1 he
  ·exact (h.far a ha hn).2 he
 ·rcases k.own with k1 | ⟨b, k1, k2⟩
  ·exact (h.far a ha hn).2 (he.trans k1)
  ·rw [k1] at he
   injection he with he
   have := lk_blk h.c hn a ha
   omega
theorem LkR.below {gb : Nat} {w w1 : World} {v : Value} {A : Option Addr} {l : List S38} (h : LkR gb w v A l) (hb : Below w.heap.size w w1) : LkR gb w1 v A l := h.to ((LkTo.refl gb w v).below hb)
theorem Lk.below {w0 w w1 : World} {gb : Nat} {v : Value} {xs : List (List S38)} (h : Lk w0 gb w v xs) (hb : Below w.heap.size w w1) : Lk w0 gb w1 v xs :=
 ⟨(hb.block _ (blk_lt h.box)).trans h.box, Kd.S_below h.row hb, h.bel.trans (hb.mono (below_size h.bel)), h.gbe⟩
theorem LkR.drop {gb : Nat} {w : World} {v : Value} {A : Option Addr} {l : List S38} (h : LkR gb w v A l) (m c : Nat) (hm : m ≤ l.length) (hc : l.length ≤ c) : LkR gb w v (if c = m then A else A.map (·.add (m * 2))) (l.drop m) := by
 refine ⟨Kd.C_drop h.c hm hc, fun a ha hn => ?_⟩
 have hl : l ≠ [] := fun e => hn (by rw [e, List.drop_nil])
 split at ha
 ·exact h.far a ha hl
 ·cases A with
  | none => cases ha
  | some ad =>
   simp only [Option.map_some, Option.some.injEq] at ha
   have := h.far ad rfl hl
   rw [← ha, lk_add]
   exact this
/-- A list of one's own that is newer than the list that is being made. -/
theorem LkR.new {gb c : Nat} {w w1 : World} {v : Value} {A : Option Addr} {l : List S38} {w0 : World} {xs : List (List S38)} (hL : Lk w0 gb w v xs) (h : Kd.R k38 38 w1 w.heap.size (fun _ => True) (.slice A l.length c) l) : LkR gb w1 v A l := by
 refine ⟨(Kd.R_reads' h).2.2, fun a ha hn => ?_⟩
 subst ha
 obtain ⟨g, rfl⟩ := Kd.R_head h
 have h1 : w.heap.size ≤ g := Kd.R_base h g rfl
 have h2 := blk_lt hL.box
 refine ⟨fun e => ?_, fun e => ?_⟩
 ·have e : g = gb := e
  omega
 ·have := Kd.S_lt hL.row g e.symm
  omega
/-- The new list is stored into the box. -/
theorem lk_put {w0 w W w8 : World} {gb : Nat} {v v8 : Value} {xs ys : List (List S38)} (hL : Lk w0 gb W v xs) (hT : LkTo gb w v W v) (hb : W.heap[gb]? = some (.cells #[v] 43 (0, 0))) (h8 : Kd.S (Kd.slice 38 k38) 27 w8 w0.heap.size (fun _ => True) v8 ys) (hB : Below w0.heap.size w0 w8) (hg : W.grownBy w8 v.ownBlock) (hat : v8.ownBlock = v.ownBlock ∨ ∃ b, v8.ownBlock = some b ∧ W.heap.size ≤ b) :
  Lk w0 gb (w8.setCell ⟨gb, 0, none⟩ v8) v8 ys ∧ LkTo gb w v (w8.setCell ⟨gb, 0, none⟩ v8) v8 := by
 have hne : some gb ≠ v.ownBlock := fun e => by
  obtain ⟨cells, hc⟩ := Kd.S_typed hL.row gb e.symm
  rw [hb] at hc
  injection hc with hc
  injection hc with _ ht
  exact absurd ht (by decide)
 have hb8 : w8.heap[gb]? = some (.cells #[v] 43 (0, 0)) := (hg.block gb (blk_lt hb) hne).trans hb
 refine ⟨⟨blk_set hb8 0 v8, Kd.S_set h8 hb8 (by decide) 0 v8, hB.setCell (show w0.heap.size ≤ (⟨gb, 0, none⟩ : Addr).block from hL.gbe) v8, hL.gbe⟩, ?_, ?_⟩
 ·refine Kept.setCell ?_ (.inl (.inl rfl)) v8
  exact Kept.of_grown hg hT.kept (fun k hk => .inl (.inr hk.symm))
 ·rcases hat with h1 | ⟨b, h1, h2⟩
  ·exact .inl h1
  ·exact .inr ⟨b, h1, Nat.le_trans hT.kept.1 h2⟩
/-- What such a search leaves. -/
def LkPost (w0 : World) (gb : Nat) (w : World) (v : Value) (ys : List (List S38)) (e : Ending) (w' : World) : Prop := e = .returned (.tuple #[]) ∧ ∃ v', Lk w0 gb w' v' ys ∧ LkTo gb w v w' v'

theorem poCross_is (d e : S38) : spec_poCross.f d.f0 d.f1 e.f0 e.f1 = some (crossP d e) := by
 unfold spec_poCross.f crossP
 repeat' split
 all_goals (congr 1; rw [Bool.eq_iff_iff]; simp only [Bool.or_eq_true, decide_eq_true_eq, Bool.false_eq_true, iff_false, iff_true, true_iff, false_iff]; omega)
theorem lk_info : (Tryz.prog.info? 27).map (fun i => (i.zero, i.size, i.bytes)) = some (some (.slice none 0 0), 1, 24) := by kernel_rfl
def poLook.T1 : Bool × List (List Nat × List Nat) := (true, [([], []), ([], []), ([1], [1]), ([2], [2]), ([], []), ([], []), ([4, 5], [4, 5]), ([6], [6]), ([3, 7, 6], [3, 7]), ([0, 0, 1, 2, 3, 4, 5, 6, 7, 8], [0]), ([9, 8, 8, 0, 1, 2, 3, 4, 5, 6, 7, 8], [8, 9])])
def poLook.B1 : List Nat := [0, 0, 2, 6, 0, 0, 48, 112, 254, 511, 1023]
theorem poLook.tab1 : rtab .any (opsOf Tryz.f38 1) = poLook.T1 := by kernel_rfl
theorem poLook.bits1 : waitsOk poLook.T1.2 poLook.B1 = true := by kernel_rfl
def poLook.T12 : Bool × List (List Nat × List Nat) := (true, [([], []), ([], []), ([], []), ([2], [2]), ([1, 3], [1, 3]), ([], []), ([], []), ([5, 6], [5, 6]), ([], []), ([8], [8]), ([7, 9, 7], [7, 9]), ([], []), ([0, 4, 10, 11, 10], [0, 4, 10, 11])])
def poLook.B12 : List Nat := [0, 0, 0, 4, 14, 0, 0, 96, 0, 256, 992, 0, 4095]
theorem poLook.tab12 : rtab .any (opsOf Tryz.f38 12) = poLook.T12 := by kernel_rfl
theorem poLook.bits12 : waitsOk poLook.T12.2 poLook.B12 = true := by kernel_rfl
def LookIH (n : Int) (N : Nat) : Prop := ∀ (all b : List S38) (A1 : Option Addr) (c1 : Nat) (A2 : Option Addr) (c2 : Nat) (gb : Nat) (v : Value) (xs : List (List S38)) (w0 w : World), all.length < N → all.length ≤ c1 → b.length ≤ c2 → b.length + all.length ≤ 1000 → xs.length + (lookT (n - 3) all b).length ≤ 1099511627776 → LkR gb w v A1 all → LkR gb w v A2 b → Lk w0 gb w v xs → Calls Tryz.prog 38 #[.int .i64 n, .slice A1 all.length c1, .slice A2 b.length c2, .pointer (some ⟨gb, 0, none⟩)] w (LkPost w0 gb w v (xs ++ lookT (n - 3) all b))
set_option maxHeartbeats 8000000 in
set_option maxRecDepth 100000 in
theorem poLook_yes (n : Int) (hn : 3 ≤ n ∧ n ≤ 8) (all b : List S38) (A1 : Option Addr) (c1 : Nat) (A2 : Option Addr) (c2 : Nat) (gb : Nat) (v : Value) (xs : List (List S38)) (w0 w : World) (hsum : b.length + all.length ≤ 1000) (hmax : xs.length + (lookT (n - 3) all b).length ≤ 1099511627776) (hr2 : LkR gb w v A2 b) (hL : Lk w0 gb w v xs) (hc : (b.length : Int) = n - 3) :
  Calls Tryz.prog 38 #[.int .i64 n, .slice A1 all.length c1, .slice A2 b.length c2, .pointer (some ⟨gb, 0, none⟩)] w (LkPost w0 gb w v (xs ++ lookT (n - 3) all b)) := by
 have hlook : lookT (n - 3) all b = [b] := by unfold lookT; rw [if_pos hc]
 rw [hlook] at hmax ⊢
 have HN := Aside0.mk hsum
 have HM := Aside0.mk hmax
 have hbe : ((b.length : Int) == n - 3) = true := by simpa using hc
 obtain ⟨n1, n2⟩ := hn
 have HL0 := Aside0.mk hL
 have HR0 := Aside0.mk hr2
 clear hr2 hL hlook hc hsum hmax
 go_enter Tryz.func38, Tryz.ntmps38
 go_wp2
 have HB0 := Aside0.mk (below_drew (Below.refl w.heap.size w))
 have HL := Aside0.mk (Lk.below HL0.out HB0.out)
 have HT := Aside0.mk (LkTo.below (LkTo.refl gb w v) HB0.out)
 have HR2 := Aside0.mk (LkR.below HR0.out HB0.out)
 have HX := Aside0.mk ((blk_cell HL.out.box 0).trans rfl : w.drew.cell? ⟨gb, 0, none⟩ = some v)
 clear HL0 HR0 HB0
 refine start_ (n := 11) (S := fun w' => w'.cell? ⟨gb, 0, none⟩ = some v) (ds := [10]) #[false, false, false, false, false, false, false, false, false, false, false] (by kernel_rfl) rfl rfl (HX.out) (fun hHeld => ?_)
 refine with_tabW poLook.tab1 poLook.bits1 (fun HT_ HW_ => ?_)
 generalize w.drew = wa at HL HT HR2 HX hHeld ⊢
 refine pux_ 0 18 HT_ ?_
 refine pux_ 1 19 HT_ ?_
 refine pux_ 2 20 HT_ ?_
 refine pux_ 5 23 HT_ ?_
 refine take_ (i := 3) (N := some 21) (v := ?_) (a' := ?_) #[true, true, true, true, false, true, false, false, false, false, false] rfl rfl (take_ofW HT_.out HW_.out (by kernel_rfl)) (fun _ _ _ h => h) (Or.inl ⟨by rfl, ?_⟩) hHeld ?_ ?_
 rotate_left
 ·intro w' s0
  go_simp
  with_reducible rfl
 rotate_left
 ·exact ap_
 refine oner_ 4 22 HT_ (fun K hK => ?_)
 refine Kd.R_lit_step k38 (w0 := wa) wa.heap.size 38 ?hg (N := 22) ?hd (xs := ([] : List S38)) (inner := []) (ok := fun _ => True) (okp := fun _ => True) ?hr ?hp (fun _ hk => hk) trivial ?hB ?hS (by simp) ?_; (case hd => rfl); (case hg => rfl); (case hr => first | (go_simp; done) | (go_simp; rfl)); (case hp => exact (Reps.none _ _))
 (case hB => exact Below.refl _ _)
 (case hS => exact Nat.le_refl _)
 intro v4 w4 ho4 hb4 hg4_ hn4_
 clear hg4_ hn4_
 have HO4 := Aside0.mk ho4
 have HB4 := Aside0.mk hb4
 clear ho4 hb4
 refine hK.out _ _ ((HB4.out.cell (World.block_lt_of_cell? _ _ hHeld)).trans hHeld) (fun hHeld => ?_)
 clear hK K
 refine nor_ 22 ?_
 refine oner_ 6 24 HT_ (fun K hK => ?_)
 refine Kd.R_append_rows_step k38 (w0 := wa) wa.heap.size (by rfl) (.tmp 22) (.tmp 23) 27 38 (.agg #[(.int .i64 0), (.int .i64 0)]) 16 rfl Tryz.underlying27 info38 rfl (by decide) (by omega) v4 [] b _ _ _ (fun _ => True) (fun _ => False) rfl rfl ?aO ?aR (fun _ _ h => h) (fun _ h => h.elim) ?aF ?aB ?aS ?aL ?_
 (case aO => exact HO4.out)
 (case aR => exact Kd.C_below HR2.out.c HB4.out)
 (case aF => exact fun _ _ => trivial)
 (case aB => exact HB4.out)
 (case aS => exact below_size HB4.out)
 (case aL => have := HN.out; simp only [List.length_nil]; omega)
 intro v6 w6 ho6 hb6 hg6 hat6
 rw [List.nil_append] at ho6
 clear hg6 hat6
 obtain ⟨A6, c6, rfl⟩ := Kd.R_slice ho6
 have HO6 := Aside0.mk ho6
 have HB6 := Aside0.mk hb6
 clear ho6 hb6
 refine hK.out _ _ ((HB6.out.cell (World.block_lt_of_cell? _ _ HX.out)).trans HX.out) (fun hHeld => ?_)
 clear hK K
 refine nor_ 24 ?_
 refine oner_ 7 25 HT_ (fun K hK => ?_)
 refine value_ (w1 := ?_) (v := ?_) (by rfl) rfl ?_ ?_
 rotate_left 2
 ·go_simp
  constructor
  ·rfl
  ·rfl
 refine hK.out _ _ (((below_alloc HB6.out _).cell (World.block_lt_of_cell? _ _ HX.out)).trans HX.out) (fun hHeld => ?_)
 clear hK K
 refine nor_ 25 ?_
 refine oner_ 8 26 HT_ (fun K hK => ?_)
 refine Kd.S_append_step (Kd.slice 38 k38) (w0 := w0) w0.heap.size (by rfl) (.tmp 21) (.tmp 25) 43 27 (.slice none 0 0) 24 rfl Tryz.underlying43 lk_info rfl (by decide) (by omega) v xs b [.slice A6 b.length c6] (fun _ => True) (fun k_ => wa.heap.size ≤ k_) rfl rfl ?zp ?zq ?zf ?zO ?zB ?zS ?zL ?_
 (case zp => exact ⟨_, rfl, Kd.R_mono (Kd.R_lower (Kd.R_bound HO6.out) (below_size HL.out.bel)) (fun _ hk => hk.2.1)⟩)
 (case zq => exact fun k_ hk => ⟨trivial, fun he => by have := Kd.S_lt HL.out.row k_ he.symm; omega⟩)
 (case zf => exact fun _ _ => trivial)
 (case zO => exact Kd.S_mono (Kd.S_below (Kd.S_bound HL.out.row) HB6.out) (fun k_ hk => ⟨trivial, Nat.not_le_of_lt hk.2.2.1⟩))
 (case zB => exact HL.out.bel.trans (HB6.out.mono (below_size HL.out.bel)))
 (case zS => exact Nat.le_trans (below_size HL.out.bel) (below_size HB6.out))
 (case zL => have := HM.out; omega)
 intro v8 w8 ho8 hb8 hg8 hat8
 have hput := lk_put (Lk.below HL.out HB6.out) (LkTo.below HT.out HB6.out) (Lk.below HL.out HB6.out).box ho8 hb8 hg8 hat8
 have hx8 := (blk_cell ((hg8.block gb (blk_lt (Lk.below HL.out HB6.out).box) (fun e => (Kd.R_ne (Kd.S_R (Lk.below HL.out HB6.out).row) (Lk.below HL.out HB6.out).box (by decide)) e)).trans (Lk.below HL.out HB6.out).box) 0).trans rfl
 have hf8 := blk_frozen ((hg8.block gb (blk_lt (Lk.below HL.out HB6.out).box) (fun e => (Kd.R_ne (Kd.S_R (Lk.below HL.out HB6.out).row) (Lk.below HL.out HB6.out).box (by decide)) e)).trans (Lk.below HL.out HB6.out).box) 0
 obtain ⟨A8, c8, rfl⟩ := Kd.S_slice ho8
 have HP := Aside0.mk hput
 clear ho8 hb8 hg8 hat8 hput
 refine hK.out _ _ (hx8) (fun hHeld => ?_)
 clear hK K
 refine nor_ 26 ?_
 refine pux_ 9 27 HT_ ?_
 refine last_ (i := 10) (N := none) #[true, true, true, true, true, true, true, true, true, true, true] rfl rfl (one_of HT_.out (by kernel_rfl)) (by decide) (fun K hK => ?_)
 refine skip_ (w1 := ?_) (by rfl) rfl ?_ ?_
 rotate_left
 ·go_simp
  rfl
 refine hK.out _ _ ?_
 clear hK K
 refine done_ (done_of HT_.out (by kernel_rfl)) ?_
 go_wp2
 refine bodyPost_ret (results_none rfl _ _ _) rfl ?_
 have hp := HP.out
 simp only [List.length_append, List.length_cons, List.length_nil, Nat.zero_add] at hp
 exact ⟨rfl, _, hp.1, hp.2⟩
set_option maxHeartbeats 8000000 in
set_option maxRecDepth 100000 in
theorem poLook_no (n : Int) (hn : 3 ≤ n ∧ n ≤ 8) (N : Nat) (ih : LookIH n N) (all b : List S38) (A1 : Option Addr) (c1 : Nat) (A2 : Option Addr) (c2 : Nat) (gb : Nat) (v : Value) (xs : List (List S38)) (w0 w : World) (hN : all.length < N + 1) (hc1 : all.length ≤ c1) (hc2 : b.length ≤ c2) (hsum : b.length + all.length ≤ 1000) (hmax : xs.length + (lookT (n - 3) all b).length ≤ 1099511627776) (hr1 : LkR gb w v A1 all) (hr2 : LkR gb w v A2 b) (hL : Lk w0 gb w v xs) (hc : ¬ (b.length : Int) = n - 3) :
  Calls Tryz.prog 38 #[.int .i64 n, .slice A1 all.length c1, .slice A2 b.length c2, .pointer (some ⟨gb, 0, none⟩)] w (LkPost w0 gb w v (xs ++ lookT (n - 3) all b)) := by
 have hlook : lookT (n - 3) all b = lookL (n - 3) all b := by unfold lookT; rw [if_neg hc]
 rw [hlook] at hmax ⊢
 have HN := Aside0.mk hsum
 have HM0 := Aside0.mk hmax
 have hbe : ((b.length : Int) == n - 3) = false := by simpa using hc
 have HN2 := Aside0.mk hN
 have HC1 := Aside0.mk hc1
 have hsmall : all.length ≤ 1000 := by omega
 have hsmall2 : b.length ≤ 1000 := by omega
 have HNN := Aside0.mk hn
 obtain ⟨n1, n2⟩ := hn
 have HL0 := Aside0.mk hL
 have HR1 := Aside0.mk hr1
 have HR0 := Aside0.mk hr2
 have IH := Aside0.mk ih
 clear hr1 hr2 hL hlook hc hsum hmax hc1 hc2 hN ih
 go_enter Tryz.func38, Tryz.ntmps38
 go_wp2
 go_loopg [30] (all.length + 1) (fun gg s30 wr => ∃ (i : Nat) (v' : Value) (ys : List (List S38)), s30 = .int .i64 i ∧ i ≤ all.length ∧ Aside0 (all.length + 1 ≤ gg + i) ∧ Aside0 (ys ++ lookL (n - 3) (all.drop i) b = xs ++ lookL (n - 3) all b) ∧ Aside0 (Lk w0 gb wr v' ys) ∧ Aside0 (LkTo gb w v wr v'))
 case atStart => exact ⟨0, v, xs, rfl, Nat.zero_le _, ⟨by omega⟩, ⟨by rw [List.drop_zero]⟩, HL0, ⟨LkTo.refl gb w v⟩⟩
 case round =>
  clear HL0
  obtain ⟨i, v1, ys, rfl, hi, HG, HE, HL1, HT1⟩ := hrel
  by_cases hlt : i < all.length
  ·have p0 : (0 : Int) ≤ (i : Int) := by omega
   have q0 : (i : Int) < (all.length : Int) := by omega
   have HRA := Aside0.mk (LkR.to HR1.out HT1.out)
   have HRB := Aside0.mk (LkR.to HR0.out HT1.out)
   obtain ⟨ad, rfl, h0, h1⟩ := at_T38 HRA.out.c (i : Int) p0 q0
   simp only [Int.toNat_natCast] at h0 h1
   have HS := Aside0.mk (lookL_step (n - 3) all b i hlt)
   obtain ⟨d, hd⟩ : ∃ d, d = rd_T38 all (i : Int) := ⟨_, rfl⟩
   rw [← hd] at h0 h1 HS
   have HDD := Aside0.mk hd
   clear hd
   go_wp2_with ((with_reducible refine gate_dst (N := 9) rfl ?_); refine bxe_ 9 #[.int .i64 0, .int .i64 0] 38 ?_; intro gd hg w9 hbox hb; have HX9 := Aside0.mk hbox; have HG9 := Aside0.mk hg; have HB9 := Aside0.mk hb; clear hbox hb hg; have hcz_0 := blc_ (.int .i64 0) HX9 0; have hcz_1 := blc_ (.int .i64 0) HX9 1; have hfz_0 := blk_frozen HX9.out 0; have hfz_1 := blk_frozen HX9.out 1)
   generalize hwx : ((w9.setCell ⟨gd, 0, none⟩ (.int .i64 d.f0)).setCell ⟨gd, 1, none⟩ (.int .i64 d.f1)) = wx
   have hdx : wx.heap[gd]? = some (.cells #[.int .i64 d.f0, .int .i64 d.f1] 38 (0, 0)) := by
    rw [← hwx]
    refine blk_put (cs := #[.int .i64 d.f0, .int .i64 0]) ?_ 1 _ rfl
    refine blk_put (cs := #[.int .i64 0, .int .i64 0]) ?_ 0 _ rfl
    exact HX9.out
   have hbx : Below wr.heap.size wr wx := by
    rw [← hwx]
    exact below_set (below_set HB9.out (Nat.le_of_eq HG9.out.symm)) (Nat.le_of_eq HG9.out.symm)
   have HD0 := Aside0.mk hdx
   have HBX := Aside0.mk hbx
   clear hwx hdx hbx hcz_0 hcz_1 hfz_0 hfz_1 h0 h1 HX9 HB9
   go_loopg [10, 37] (b.length + 1) (fun gg2 s10 s37 wy => ∃ (j : Nat) (fr : Bool), s10 = .bool fr ∧ s37 = .int .i64 j ∧ j ≤ b.length ∧ Aside0 (b.length + 1 ≤ gg2 + j) ∧ Aside0 ((fr && (b.drop j).all fun e => !crossP d e) = !(b.any (crossP d))) ∧ Aside0 (Below wx.heap.size wx wy))
   case atStart => exact ⟨0, true, rfl, rfl, Nat.zero_le _, ⟨by omega⟩, ⟨by rw [List.drop_zero, Bool.true_and, look_all]⟩, ⟨Below.refl _ _⟩⟩
   case round =>
    obtain ⟨j, fr, rfl, rfl, hj, HG2, HF, HBY⟩ := hrel
    by_cases hjt : j < b.length
    ·have p2 : (0 : Int) ≤ (j : Int) := by omega
     have q2 : (j : Int) < (b.length : Int) := by omega
     have HS2 := Aside0.mk (look_any d b j hjt)
     have HRY := Aside0.mk ((HRB.out.below HBX.out).below HBY.out)
     obtain ⟨ad2, rfl, k0, k1⟩ := at_T38 HRY.out.c (j : Int) p2 q2
     simp only [Int.toNat_natCast] at k0 k1
     obtain ⟨e, he⟩ : ∃ e, e = rd_T38 b (j : Int) := ⟨_, rfl⟩
     rw [← he] at k0 k1 HS2
     clear he
     have hd0 : wr.cell? ⟨gd, 0, none⟩ = some (.int .i64 d.f0) := (blk_cell ((HBY.out.block gd (blk_lt HD0.out)).trans HD0.out) 0).trans rfl
     have hd1 : wr.cell? ⟨gd, 1, none⟩ = some (.int .i64 d.f1) := (blk_cell ((HBY.out.block gd (blk_lt HD0.out)).trans HD0.out) 1).trans rfl
     have HD1 := Aside0.mk ((HBY.out.block gd (blk_lt HD0.out)).trans HD0.out)
     cases fr with
     | true =>
      go_wp2_with (first
       | ((with_reducible refine gate_dst (N := 12) rfl ?_); refine bxe_ 12 #[.int .i64 0, .int .i64 0] 38 ?_; intro ge hg w12 hbox hb; have HX12 := Aside0.mk hbox; have HG12 := Aside0.mk hg; have HB12 := Aside0.mk hb; have hne1 : gd ≠ ge := (fun e_ => by have := blk_lt HD1.out; omega); have hne2 : ge ≠ gd := Ne.symm hne1; have hcw_0 : w12.cell? ⟨ge, 0, none⟩ = some (.int .i64 0) := (blk_cell HX12.out 0).trans rfl; have hcw_1 : w12.cell? ⟨ge, 1, none⟩ = some (.int .i64 0) := (blk_cell HX12.out 1).trans rfl; have hfw_0 := blk_frozen HX12.out 0; have hfw_1 := blk_frozen HX12.out 1; have hdw_0 : w12.cell? ⟨gd, 0, none⟩ = some (.int .i64 d.f0) := (HB12.out.cell (World.block_lt_of_cell? _ _ hd0)).trans hd0; have hdw_1 : w12.cell? ⟨gd, 1, none⟩ = some (.int .i64 d.f1) := (HB12.out.cell (World.block_lt_of_cell? _ _ hd1)).trans hd1; clear hbox hb hg)
       | (go_at_call 37; refine (spec_poCross.calls d.f0 d.f1 e.f0 e.f1 (crossP d e) _ (poCross_is d e)).mono ?_; rintro e1 w13 ⟨rfl, hb13⟩; have HB13 := Aside0.mk hb13; clear hb13))
      go_roundg (b.length - j)
      case measure => have := HG2.out; omega
      case rel =>
       refine ⟨j + 1, !(crossP d e), rfl, by go_num, by omega, ⟨by omega⟩, ⟨?_⟩, ⟨?_⟩⟩
       ·rw [← HF.out, HS2.out, Bool.true_and]
       ·exact HBY.out.trans ((below_then (below_set (below_set HB12.out (Nat.le_of_eq HG12.out.symm)) (Nat.le_of_eq HG12.out.symm)) (below_size (below_set (below_set HB12.out (Nat.le_of_eq HG12.out.symm)) (Nat.le_of_eq HG12.out.symm))) HB13.out).mono (below_size HBY.out))
     | false =>
      go_wp2_with ((with_reducible refine gate_dst (N := 12) rfl ?_); refine bxe_ 12 #[.int .i64 0, .int .i64 0] 38 ?_; intro ge hg w12 hbox hb; have HX12 := Aside0.mk hbox; have HG12 := Aside0.mk hg; have HB12 := Aside0.mk hb; have hcw_0 : w12.cell? ⟨ge, 0, none⟩ = some (.int .i64 0) := (blk_cell HX12.out 0).trans rfl; have hcw_1 : w12.cell? ⟨ge, 1, none⟩ = some (.int .i64 0) := (blk_cell HX12.out 1).trans rfl; have hfw_0 := blk_frozen HX12.out 0; have hfw_1 := blk_frozen HX12.out 1; clear hbox hb hg)
      go_roundg (b.length - j)
      case measure => have := HG2.out; omega
      case rel =>
       refine ⟨j + 1, false, rfl, by go_num, by omega, ⟨by omega⟩, ⟨?_⟩, ⟨?_⟩⟩
       ·rw [← HF.out, HS2.out, Bool.false_and, Bool.false_and]
       ·exact HBY.out.trans ((below_set (below_set HB12.out (Nat.le_of_eq HG12.out.symm)) (Nat.le_of_eq HG12.out.symm)).mono (below_size HBY.out))
    ·have hjz : ¬ (j : Int) < (b.length : Int) := by omega
     have hfr : fr = !(b.any (crossP d)) := by rw [← HF.out, List.drop_of_length_le (by omega), List.all_nil, Bool.and_true]
     have HL2 := Aside0.mk ((HL1.out.below HBX.out).below HBY.out)
     have HT2 := Aside0.mk ((HT1.out.below HBX.out).below HBY.out)
     have HRY1 := Aside0.mk ((HRA.out.below HBX.out).below HBY.out)
     have HRY2 := Aside0.mk ((HRB.out.below HBX.out).below HBY.out)
     have HD1 := Aside0.mk ((HBY.out.block gd (blk_lt HD0.out)).trans HD0.out)
     have HF2 := Aside0.mk hfr
     clear hfr HF HL1 HT1 HRA HRB HD0 HBX HBY
     cases fr with
     | false =>
      have hany : b.any (crossP d) = true := by simpa using HF2.out
      have HE2 := Aside0.mk (show ys ++ lookL (n - 3) (all.drop (i + 1)) b = xs ++ lookL (n - 3) all b by rw [← HE.out, HS.out, if_pos hany, List.nil_append])
      clear hany HS HE
      go_wp2
      go_roundg (all.length - i)
      case measure => have := HG.out; omega
      case rel => exact ⟨i + 1, v1, ys, by go_num, by omega, ⟨by omega⟩, HE2, HL2, HT2⟩
     | true =>
      have hany : b.any (crossP d) = false := by simpa using HF2.out
      have HE2 := Aside0.mk (show (ys ++ lookT (n - 3) (all.drop (i + 1)) (b ++ [d])) ++ lookL (n - 3) (all.drop (i + 1)) b = xs ++ lookL (n - 3) all b by rw [← HE.out, HS.out, hany, if_neg (by simp), List.append_assoc])
      have HM := Aside0.mk (show ys.length + (lookT (n - 3) (all.drop (i + 1)) (b ++ [d])).length ≤ 1099511627776 by
       have h1 := congrArg List.length HE2.out
       have h2 := HM0.out
       simp only [List.length_append] at h1
       omega)
      clear hany HS HE
      obtain ⟨A1', hA1'⟩ : ∃ A1' : Option Addr, A1' = if c1 = i + 1 then some ad else (some ad).map (·.add ((i + 1) * 2)) := ⟨_, rfl⟩
      have hdrop := HRY1.out.drop (i + 1) c1 (by omega) HC1.out
      obtain ⟨i0_, hi0_, _, hsz_, _⟩ := info_parts info38
      have hcut : ∀ W : World, (Instr.slice 27 (.slice (some ad) all.length c1) (some (.int .i64 (wrap64 ((i : Int) + 1)))) none none).run Tryz.prog W = .ok (.slice A1' (all.drop (i + 1)).length (c1 - (i + 1))) W := by
       intro W
       rw [show wrap64 ((i : Int) + 1) = (i : Int) + 1 by unfold wrap64; omega]
       rw [cut_from (P := Tryz.prog) 27 38 .i64 Tryz.underlying27 hi0_ 2 hsz_ (some ad) all.length c1 ((i : Int) + 1) (by omega) (by omega) W, hA1', List.length_drop, show ((i : Int) + 1).toNat = i + 1 by omega]
      rw [← hA1'] at hdrop
      have HB0 := Aside0.mk (below_drew (Below.refl wr.heap.size wr))
      have HL := Aside0.mk (Lk.below HL2.out HB0.out)
      have HT := Aside0.mk (HT2.out.below HB0.out)
      have HR2 := Aside0.mk (HRY2.out.below HB0.out)
      have HR1' := Aside0.mk (hdrop.below HB0.out)
      have HD := Aside0.mk ((HB0.out.block gd (blk_lt HD1.out)).trans HD1.out)
      clear hA1' hdrop hi0_ hsz_ HB0 HL2 HT2 HRY2 HRY1 HD1
      go_wp2
      refine start_ (n := 13) (S := fun w' => w'.cell? ⟨gd, 0, none⟩ = some (.int .i64 d.f0) ∧ w'.cell? ⟨gd, 1, none⟩ = some (.int .i64 d.f1)) (ds := [12]) #[false, false, false, false, false, false, false, false, false, false, false, false, false] (by kernel_rfl) rfl rfl ⟨(blk_cell HD.out 0).trans rfl, (blk_cell HD.out 1).trans rfl⟩ (fun hHeld => ?_)
      refine with_tabW poLook.tab12 poLook.bits12 (fun HT_ HW_ => ?_)
      generalize wr.drew = wa at HL HT HR2 HR1' HD hHeld ⊢
      refine pux_ 0 50 HT_ ?_
      refine pux_ 1 51 HT_ ?_
      refine pux_ 2 52 HT_ ?_
      refine pux_ 3 53 HT_ ?_
      refine pux_ 4 54 HT_ ?_
      refine pux_ 6 56 HT_ ?_
      refine pux_ 11 61 HT_ ?_
      refine tak_ 8 58 HT_ HW_ hHeld ?_
      refine join_ (σ := Value × Value × Value) 2 #[true, true, true, true, true, true, true, true, true, true, false, true, false] (fun s_ => [(55, s_.1), (57, s_.2.1), (59, s_.2.2)]) (fun s_ w' => (w'.cell? ⟨gd, 0, none⟩ = some (.int .i64 d.f0) ∧ w'.cell? ⟨gd, 1, none⟩ = some (.int .i64 d.f1)) ∧ Kd.R k38 38 w' wa.heap.size (fun _ => True) s_.2.1 b ∧ Kd.R k38 38 w' wa.heap.size (fun _ => True) s_.2.2 [d] ∧ Below wa.heap.size wa w') ?_ ?_
      rotate_left
      ·intro hCont
       refine two_ (i := 5) (j := 9) (Ni := some 55) (Nj := some 59) #[true, true, true, true, true, true, true, false, true, false, false, true, false] #[true, true, true, true, true, false, true, false, true, true, false, true, false] rfl rfl rfl rfl (two_of HT_.out (by kernel_rfl)) (by decide) (by decide) (fun K hK => ?_) (fun K hK => ?_)
       ·skip
        refine Kd.R_lit_step k38 (w0 := wa) wa.heap.size 38 ?hg (N := 55) ?hd (xs := ([] : List S38)) (inner := []) (ok := fun _ => True) (okp := fun _ => True) ?hr ?hp (fun _ hk => hk) trivial ?hB ?hS (by simp) ?_; (case hd => rfl); (case hg => rfl); (case hr => first | (go_simp; done) | (go_simp; rfl)); (case hp => exact (Reps.none _ _))
        (case hB => exact Below.refl _ _)
        (case hS => exact below_size (Below.refl _ _ : Below wa.heap.size wa _))
        intro v55 w5 ho hb hg_ hn_
        have HO55 := Aside0.mk ho
        have HB5 := Aside0.mk hb
        clear ho hb hg_ hn_ 
        refine hK.out _ _ ⟨(HB5.out.cell (World.block_lt_of_cell? _ _ (blk_cell HD.out 0 |>.trans rfl))).trans (blk_cell HD.out 0 |>.trans rfl), (HB5.out.cell (World.block_lt_of_cell? _ _ (blk_cell HD.out 1 |>.trans rfl))).trans (blk_cell HD.out 1 |>.trans rfl)⟩ (fun hHeld => ?_)
        clear hK K
        refine nor_ 55 ?_
        refine two_ (i := 7) (j := 9) (Ni := some 57) (Nj := some 59) #[true, true, true, true, true, true, true, true, true, false, false, true, false] #[true, true, true, true, true, true, true, false, true, true, false, true, false] rfl rfl rfl rfl (two_of HT_.out (by kernel_rfl)) (by decide) (by decide) (fun K hK => ?_) (fun K hK => ?_)
        ·skip
         refine Kd.R_append_rows_step k38 (w0 := wa) wa.heap.size (by rfl) (.tmp 55) (.tmp 56) 27 38 (.agg #[(.int .i64 0), (.int .i64 0)]) 16 rfl Tryz.underlying27 info38 rfl (by decide) (by omega) v55 [] b _ _ _ (fun _ => True) (fun _ => False) rfl rfl ?aO ?aR (fun _ _ h => h) (fun _ h => h.elim) ?aF ?aB ?aS ?aL ?_
         (case aO => exact HO55.out)
         (case aR => exact Kd.C_below HR2.out.c HB5.out)
         (case aF => exact fun _ _ => trivial)
         (case aB => exact HB5.out)
         (case aS => exact below_size (HB5.out : Below wa.heap.size wa _))
         (case aL => have := HN.out; simp only [List.length_nil]; omega)
         intro v57 w57 ho hb hg hat
         rw [List.nil_append] at ho
         have HO57 := Aside0.mk ho
         have HB57 := Aside0.mk hb
         clear ho hb hg hat HB5
         refine hK.out _ _ ⟨(HB57.out.cell (World.block_lt_of_cell? _ _ (blk_cell HD.out 0 |>.trans rfl))).trans (blk_cell HD.out 0 |>.trans rfl), (HB57.out.cell (World.block_lt_of_cell? _ _ (blk_cell HD.out 1 |>.trans rfl))).trans (blk_cell HD.out 1 |>.trans rfl)⟩ (fun hHeld => ?_)
         clear hK K
         refine nor_ 57 ?_
         refine oner_ 9 59 HT_ (fun K hK => ?_)
         refine Kd.R_lit_step k38 (w0 := wa) wa.heap.size 38 ?hg (N := 59) ?hd (xs := ([d] : List S38)) (inner := [.int .i64 d.f0, .int .i64 d.f1]) (ok := fun _ => True) (okp := fun _ => True) ?hr ?hp (fun _ hk => hk) trivial ?hB ?hS (by simp) ?_; (case hd => rfl); (case hg => rfl); (case hr => first | (go_simp; done) | (go_simp; rfl)); (case hp => exact (Reps.c2 (show Kd.M k38 _ _ _ d [.int .i64 d.f0, .int .i64 d.f1] from (k38_mkM _ _ _ d)) (Reps.none _ _)))
         (case hB => exact HB57.out)
         (case hS => exact below_size (HB57.out : Below wa.heap.size wa _))
         intro v59 w579 ho hb hg_ hn_
         have HO59 := Aside0.mk ho
         replace HO57 := Aside0.mk (Kd.R_grown HO57.out hg_ (fun _ _ h_ => by cases h_))
         have HB579 := Aside0.mk hb
         clear ho hb hg_ hn_ HB57
         refine hK.out _ _ ⟨(HB579.out.cell (World.block_lt_of_cell? _ _ (blk_cell HD.out 0 |>.trans rfl))).trans (blk_cell HD.out 0 |>.trans rfl), (HB579.out.cell (World.block_lt_of_cell? _ _ (blk_cell HD.out 1 |>.trans rfl))).trans (blk_cell HD.out 1 |>.trans rfl)⟩ (fun hHeld => ?_)
         clear hK K
         refine nor_ 59 ?_
         exact norm_ (by simp only [putAll, Act.put, List.setIfInBounds_toArray, List.set_cons_zero, List.set_cons_succ]) (hCont (v55, v57, v59) _ ⟨hHeld, HO57.out, HO59.out, HB579.out⟩)
        ·skip
         refine Kd.R_lit_step k38 (w0 := wa) wa.heap.size 38 ?hg (N := 59) ?hd (xs := ([d] : List S38)) (inner := [.int .i64 d.f0, .int .i64 d.f1]) (ok := fun _ => True) (okp := fun _ => True) ?hr ?hp (fun _ hk => hk) trivial ?hB ?hS (by simp) ?_; (case hd => rfl); (case hg => rfl); (case hr => first | (go_simp; done) | (go_simp; rfl)); (case hp => exact (Reps.c2 (show Kd.M k38 _ _ _ d [.int .i64 d.f0, .int .i64 d.f1] from (k38_mkM _ _ _ d)) (Reps.none _ _)))
         (case hB => exact HB5.out)
         (case hS => exact below_size (HB5.out : Below wa.heap.size wa _))
         intro v59 w59 ho hb hg_ hn_
         have HO59 := Aside0.mk (Kd.R_mono (ok' := fun k_ => some k_ ≠ v55.ownBlock) (Kd.R_tight rfl ho) (fun k_ hk he => by obtain ⟨b_, e_, h_⟩ := hn_; rw [e_] at hk; injection hk with hk; have := Kd.R_lt HO55.out k_ he.symm; omega))
         replace HO55 := Aside0.mk (Kd.R_grown HO55.out hg_ (fun _ _ h_ => by cases h_))
         have HB59 := Aside0.mk hb
         clear ho hb hg_ hn_ HB5
         refine hK.out _ _ ⟨(HB59.out.cell (World.block_lt_of_cell? _ _ (blk_cell HD.out 0 |>.trans rfl))).trans (blk_cell HD.out 0 |>.trans rfl), (HB59.out.cell (World.block_lt_of_cell? _ _ (blk_cell HD.out 1 |>.trans rfl))).trans (blk_cell HD.out 1 |>.trans rfl)⟩ (fun hHeld => ?_)
         clear hK K
         refine nor_ 59 ?_
         refine oner_ 7 57 HT_ (fun K hK => ?_)
         refine Kd.R_append_rows_step k38 (w0 := wa) wa.heap.size (by rfl) (.tmp 55) (.tmp 56) 27 38 (.agg #[(.int .i64 0), (.int .i64 0)]) 16 rfl Tryz.underlying27 info38 rfl (by decide) (by omega) v55 [] b _ _ _ (fun _ => True) (fun _ => False) rfl rfl ?aO ?aR (fun _ _ h => h) (fun _ h => h.elim) ?aF ?aB ?aS ?aL ?_
         (case aO => exact HO55.out)
         (case aR => exact Kd.C_below HR2.out.c HB59.out)
         (case aF => exact fun _ _ => trivial)
         (case aB => exact HB59.out)
         (case aS => exact below_size (HB59.out : Below wa.heap.size wa _))
         (case aL => have := HN.out; simp only [List.length_nil]; omega)
         intro v57 w597 ho hb hg hat
         rw [List.nil_append] at ho
         have HO57 := Aside0.mk ho
         replace HO59 := Aside0.mk (Kd.R_mono (ok' := fun _ => True) (Kd.R_grown HO59.out hg (fun _ hk => hk)) (fun _ _ => trivial))
         have HB597 := Aside0.mk hb
         clear ho hb hg hat HB59
         refine hK.out _ _ ⟨(HB597.out.cell (World.block_lt_of_cell? _ _ (blk_cell HD.out 0 |>.trans rfl))).trans (blk_cell HD.out 0 |>.trans rfl), (HB597.out.cell (World.block_lt_of_cell? _ _ (blk_cell HD.out 1 |>.trans rfl))).trans (blk_cell HD.out 1 |>.trans rfl)⟩ (fun hHeld => ?_)
         clear hK K
         refine nor_ 57 ?_
         exact norm_ (by simp only [putAll, Act.put, List.setIfInBounds_toArray, List.set_cons_zero, List.set_cons_succ]) (hCont (v55, v57, v59) _ ⟨hHeld, HO57.out, HO59.out, HB597.out⟩)
       ·skip
        refine Kd.R_lit_step k38 (w0 := wa) wa.heap.size 38 ?hg (N := 59) ?hd (xs := ([d] : List S38)) (inner := [.int .i64 d.f0, .int .i64 d.f1]) (ok := fun _ => True) (okp := fun _ => True) ?hr ?hp (fun _ hk => hk) trivial ?hB ?hS (by simp) ?_; (case hd => rfl); (case hg => rfl); (case hr => first | (go_simp; done) | (go_simp; rfl)); (case hp => exact (Reps.c2 (show Kd.M k38 _ _ _ d [.int .i64 d.f0, .int .i64 d.f1] from (k38_mkM _ _ _ d)) (Reps.none _ _)))
        (case hB => exact Below.refl _ _)
        (case hS => exact below_size (Below.refl _ _ : Below wa.heap.size wa _))
        intro v59 w9 ho hb hg_ hn_
        have HO59 := Aside0.mk ho
        have HB9 := Aside0.mk hb
        clear ho hb hg_ hn_ 
        refine hK.out _ _ ⟨(HB9.out.cell (World.block_lt_of_cell? _ _ (blk_cell HD.out 0 |>.trans rfl))).trans (blk_cell HD.out 0 |>.trans rfl), (HB9.out.cell (World.block_lt_of_cell? _ _ (blk_cell HD.out 1 |>.trans rfl))).trans (blk_cell HD.out 1 |>.trans rfl)⟩ (fun hHeld => ?_)
        clear hK K
        refine nor_ 59 ?_
        refine oner_ 5 55 HT_ (fun K hK => ?_)
        refine Kd.R_lit_step k38 (w0 := wa) wa.heap.size 38 ?hg (N := 55) ?hd (xs := ([] : List S38)) (inner := []) (ok := fun _ => True) (okp := fun _ => True) ?hr ?hp (fun _ hk => hk) trivial ?hB ?hS (by simp) ?_; (case hd => rfl); (case hg => rfl); (case hr => first | (go_simp; done) | (go_simp; rfl)); (case hp => exact (Reps.none _ _))
        (case hB => exact HB9.out)
        (case hS => exact below_size (HB9.out : Below wa.heap.size wa _))
        intro v55 w95 ho hb hg_ hn_
        have HO55 := Aside0.mk ho
        replace HO59 := Aside0.mk (Kd.R_mono (ok' := fun k_ => some k_ ≠ v55.ownBlock) (Kd.R_grown (Kd.R_bound HO59.out) hg_ (fun _ _ h_ => by cases h_)) (fun k_ hk he => by obtain ⟨b_, e_, h_⟩ := hn_; rw [e_] at he; injection he with he; have := hk.2.2.1; omega))
        have HB95 := Aside0.mk hb
        clear ho hb hg_ hn_ HB9
        refine hK.out _ _ ⟨(HB95.out.cell (World.block_lt_of_cell? _ _ (blk_cell HD.out 0 |>.trans rfl))).trans (blk_cell HD.out 0 |>.trans rfl), (HB95.out.cell (World.block_lt_of_cell? _ _ (blk_cell HD.out 1 |>.trans rfl))).trans (blk_cell HD.out 1 |>.trans rfl)⟩ (fun hHeld => ?_)
        clear hK K
        refine nor_ 55 ?_
        refine oner_ 7 57 HT_ (fun K hK => ?_)
        refine Kd.R_append_rows_step k38 (w0 := wa) wa.heap.size (by rfl) (.tmp 55) (.tmp 56) 27 38 (.agg #[(.int .i64 0), (.int .i64 0)]) 16 rfl Tryz.underlying27 info38 rfl (by decide) (by omega) v55 [] b _ _ _ (fun _ => True) (fun _ => False) rfl rfl ?aO ?aR (fun _ _ h => h) (fun _ h => h.elim) ?aF ?aB ?aS ?aL ?_
        (case aO => exact HO55.out)
        (case aR => exact Kd.C_below HR2.out.c HB95.out)
        (case aF => exact fun _ _ => trivial)
        (case aB => exact HB95.out)
        (case aS => exact below_size (HB95.out : Below wa.heap.size wa _))
        (case aL => have := HN.out; simp only [List.length_nil]; omega)
        intro v57 w957 ho hb hg hat
        rw [List.nil_append] at ho
        have HO57 := Aside0.mk ho
        replace HO59 := Aside0.mk (Kd.R_mono (ok' := fun _ => True) (Kd.R_grown HO59.out hg (fun _ hk => hk)) (fun _ _ => trivial))
        have HB957 := Aside0.mk hb
        clear ho hb hg hat HB95
        refine hK.out _ _ ⟨(HB957.out.cell (World.block_lt_of_cell? _ _ (blk_cell HD.out 0 |>.trans rfl))).trans (blk_cell HD.out 0 |>.trans rfl), (HB957.out.cell (World.block_lt_of_cell? _ _ (blk_cell HD.out 1 |>.trans rfl))).trans (blk_cell HD.out 1 |>.trans rfl)⟩ (fun hHeld => ?_)
        clear hK K
        refine nor_ 57 ?_
        exact norm_ (by simp only [putAll, Act.put, List.setIfInBounds_toArray, List.set_cons_zero, List.set_cons_succ]) (hCont (v55, v57, v59) _ ⟨hHeld, HO57.out, HO59.out, HB957.out⟩)
      rintro ⟨v55, v57, v59⟩ w57 ⟨hHeld, ho57, ho59, hb57⟩
      have HO57 := Aside0.mk ho57
      have HB57 := Aside0.mk hb57
      obtain ⟨A59, c59, rfl⟩ := Kd.R_slice ho59
      have HO59 := Aside0.mk ho59
      clear ho57 ho59 hb57
      refine norm_ (a' := ?_) ?_ ?_
      rotate_left
      ·simp only [putAll, Act.put, List.setIfInBounds_toArray, List.set_cons_zero, List.set_cons_succ]
       rfl
      refine oner_ 10 60 HT_ (fun K hK => ?_)
      refine Kd.R_append_rows_step k38 (w0 := wa) wa.heap.size (by rfl) (.tmp 57) (.tmp 59) 27 38 (.agg #[(.int .i64 0), (.int .i64 0)]) 16 rfl Tryz.underlying27 info38 rfl (by decide) (by omega) v57 b [d] _ _ _ (fun _ => True) (fun _ => False) rfl rfl ?aO ?aR (fun _ _ h => h) (fun _ h => h.elim) ?aF ?aB ?aS ?aL ?_
      (case aO => exact HO57.out)
      (case aR => exact (Kd.R_reads' HO59.out).2.2)
      (case aF => exact fun _ _ => trivial)
      (case aB => exact HB57.out)
      (case aS => exact below_size HB57.out)
      (case aL => have := HN.out; simp only [List.length_singleton]; omega)
      intro v60 w60 ho hb hg hat
      clear hg hat
      obtain ⟨A60, c60, rfl⟩ := Kd.R_slice ho
      have HO60 := Aside0.mk ho
      have HB60 := Aside0.mk hb
      clear ho hb HO57 HO59 HB57
      refine hK.out _ _ ⟨(HB60.out.cell (World.block_lt_of_cell? _ _ (blk_cell HD.out 0 |>.trans rfl))).trans (blk_cell HD.out 0 |>.trans rfl), (HB60.out.cell (World.block_lt_of_cell? _ _ (blk_cell HD.out 1 |>.trans rfl))).trans (blk_cell HD.out 1 |>.trans rfl)⟩ (fun hHeld => ?_)
      clear hK K
      refine nor_ 60 ?_
      refine last_ (i := 12) (N := some 62) #[true, true, true, true, true, true, true, true, true, true, true, true, true] rfl rfl (one_of HT_.out (by kernel_rfl)) (by decide) (fun K hK => ?_)
      have hcall := IH.out (all.drop (i + 1)) (b ++ [d]) A1' (c1 - (i + 1)) A60 c60 gb v1 ys w0 w60 (by rw [List.length_drop]; have := HN2.out; omega) (by rw [List.length_drop]; have := HC1.out; omega) (Kd.R_reads' HO60.out).2.1 (by rw [List.length_drop, List.length_append, List.length_singleton]; have := HN.out; omega) HM.out (LkR.below HR1'.out HB60.out) (LkR.new HL.out HO60.out) (Lk.below HL.out HB60.out)
      have HCALL := Aside0.mk hcall
      clear hcall
      refine goes_ Tryz.func38 (by kernel_rfl) rfl #[.int .i64 n, .slice A1' (all.drop (i + 1)).length (c1 - (i + 1)), .slice A60 (b ++ [d]).length c60, .pointer (some ⟨gb, 0, none⟩)] (by rfl) rfl rfl (by (try simp only [List.map_toArray, List.map_cons, List.map_nil]); first | done | rfl | (simp only [List.length_drop, List.length_append, List.length_cons, List.length_nil, Nat.zero_add]; rfl)) ?_
      refine HCALL.out.mono ?_
      rintro e w62 ⟨rfl, v62, hl62, ht62⟩
      refine ⟨_, rfl, ?_⟩
      have HL62 := Aside0.mk hl62
      have HT62 := Aside0.mk ((HT.out.below HB60.out).trans ht62)
      clear hl62 ht62 HCALL
      refine hK.out _ _ ?_
      clear hK K
      refine nor_ 62 ?_
      refine done_ (done_of HT_.out (by kernel_rfl)) ?_
      go_wp2
      go_roundg (all.length - i)
      case measure => have := HG.out; omega
      case rel => exact ⟨i + 1, v62, ys ++ lookT (n - 3) (all.drop (i + 1)) (b ++ [d]), by go_num, by omega, ⟨by omega⟩, HE2, HL62, HT62⟩
  ·have hltz : ¬ (i : Int) < (all.length : Int) := by omega
   go_wp2
   refine bodyPost_ret (results_none rfl _ _ _) rfl ?_
   have he := HE.out
   rw [List.drop_of_length_le (by omega), show lookL (n - 3) [] b = [] from rfl, List.append_nil] at he
   exact ⟨rfl, v1, by rw [← he]; exact HL1.out, HT1.out⟩
theorem poLook_calls (n : Int) (hn : 3 ≤ n ∧ n ≤ 8) : ∀ N : Nat, LookIH n N := by
 intro N
 induction N with
 | zero =>
  intro all b A1 c1 A2 c2 gb v xs w0 w hN
  omega
 | succ N ih =>
  intro all b A1 c1 A2 c2 gb v xs w0 w hN hc1 hc2 hsum hmax hr1 hr2 hL
  by_cases hc : (b.length : Int) = n - 3
  ·exact poLook_yes n hn all b A1 c1 A2 c2 gb v xs w0 w hsum hmax hr2 hL hc
  ·exact poLook_no n hn N ih all b A1 c1 A2 c2 gb v xs w0 w hN hc1 hc2 hsum hmax hr1 hr2 hL hc

/-- Is it a diagonal? -/
def pdB (n x y : Int) : Bool := decide (0 ≤ x ∧ x ≤ n - 1 ∧ 0 ≤ y ∧ y ≤ n - 1 ∧ 2 ≤ y - x ∧ y - x ≤ n - 2)
theorem poDiag_is (n : Int) (hn : 3 ≤ n ∧ n ≤ 8) (x y : Nat) (hx : x ≤ 100) (hy : y ≤ 100) : spec_poDiagonal.f n (x : Int) (y : Int) = some (pdB n x y) := by
 have w1 : wrap64 (n - 1) = n - 1 := by unfold wrap64; omega
 have w2 : wrap64 (n - 2) = n - 2 := by unfold wrap64; omega
 have w3 : wrap64 ((y : Int) - x) = (y : Int) - x := by unfold wrap64; omega
 have h1 : ∀ a b c : Int, spec_l1In.f a b c = some (decide (b ≤ a ∧ a ≤ c)) := by
  intro a b c
  unfold spec_l1In.f
  split
  ·rename_i h
   congr 1
   rw [Bool.eq_iff_iff, decide_eq_true_iff, decide_eq_true_iff]
   omega
  ·rename_i h
   congr 1
   symm
   rw [decide_eq_false_iff_not]
   omega
 unfold spec_poDiagonal.f spec_poIs.f pdB
 simp only [h1, Option.bind_some, w1, w2, w3, decide_eq_true_eq]
 rw [if_pos (by omega)]
 repeat' split
 all_goals (congr 1; rw [Bool.eq_iff_iff]; simp only [decide_eq_true_eq, Bool.false_eq_true, false_iff]; omega)
def paRow (n : Int) (a b e : Nat) : List S38 := ((List.range' b e).filter fun (y : Nat) => pdB n a y).map fun (y : Nat) => ⟨(a : Int), (y : Int)⟩
def paRows (n : Int) (N a e : Nat) : List S38 := (List.range' a e).flatMap fun (a : Nat) => paRow n a (a + 2) (N - (a + 2))
theorem paRow_succ (n : Int) (a b e : Nat) : paRow n a b (e + 1) = (if pdB n a b = true then [(⟨(a : Int), (b : Int)⟩ : S38)] else []) ++ paRow n a (b + 1) e := by
 unfold paRow
 rw [List.range'_succ, List.filter_cons]
 split <;> rfl
theorem paRows_succ (n : Int) (N a e : Nat) : paRows n N a (e + 1) = paRow n a (a + 2) (N - (a + 2)) ++ paRows n N (a + 1) e := by
 unfold paRows
 rw [List.range'_succ, List.flatMap_cons]
/-- All diagonals in order. -/
def diagsOf (n : Int) : List S38 := paRows n n.toNat 0 n.toNat
theorem diagsOf_le (n : Int) (hn : 3 ≤ n ∧ n ≤ 8) : (diagsOf n).length ≤ 20 := by
 have : n = 3 ∨ n = 4 ∨ n = 5 ∨ n = 6 ∨ n = 7 ∨ n = 8 := by omega
 rcases this with rfl | rfl | rfl | rfl | rfl | rfl <;> decide
/-- All triangulations in order. -/
def trisOf (n : Int) : List (List S38) := lookT (n - 3) (diagsOf n) []
theorem trisOf_le (n : Int) (hn : 3 ≤ n ∧ n ≤ 8) : (trisOf n).length ≤ 1048576 := by
 have h1 := diagsOf_le n hn
 have h2 := lookL_le (n - 3) (diagsOf n) []
 have h3 : 2 ^ (diagsOf n).length ≤ 2 ^ 20 := Nat.pow_le_pow_right (by omega) h1
 have h4 : (2 : Nat) ^ 20 = 1048576 := by decide
 unfold trisOf lookT
 split
 ·simp
 ·omega
def spec_poAll.f (a0 : Int) : Option (List (List S38)) := if 3 ≤ a0 ∧ a0 ≤ 8 then some (trisOf a0) else none
set_option maxHeartbeats 8000000 in
set_option maxRecDepth 100000 in
theorem spec_poAll.calls (a0 : Int) (r : List (List S38)) (w : World) (h : spec_poAll.f a0 = some r) :
  Calls Tryz.prog 22 #[.int .i64 a0] w fun e w' => ∃ v0_ : Value, e = .returned (v0_) ∧ Kd.S (Kd.slice 38 k38) 27 w' w.heap.size (fun _ => True) v0_ r ∧ Below w.heap.size w w' := by
 have H : (if 3 ≤ a0 ∧ a0 ≤ 8 then some (trisOf a0) else none) = some r := h
 clear h
 by_cases hn : 3 ≤ a0 ∧ a0 ≤ 8
 ·rw [if_pos hn] at H
  obtain rfl := Option.some.inj H
  clear H
  have hkey : ∀ (A1 : Option Addr) (c1 gb : Nat) (w5 w6 : World), Kd.R k38 38 w5 w.heap.size (fun _ => True) (.slice A1 (diagsOf a0).length c1) (diagsOf a0) → Below w.heap.size w w5 → gb = w5.heap.size → w6.heap[gb]? = some (.cells #[.slice none 0 0] 43 (0, 0)) → Below w5.heap.size w5 w6 →
    Calls Tryz.prog 38 #[.int .i64 a0, .slice A1 (diagsOf a0).length c1, .slice none 0 0, .pointer (some ⟨gb, 0, none⟩)] w6 fun e w7 => e = .returned (.tuple #[]) ∧ ∃ v', Lk w gb w7 v' (trisOf a0) := by
   intro A1 c1 gb w5 w6 hR hB hg hx hb
   have h1 := poLook_calls a0 hn ((diagsOf a0).length + 1) (diagsOf a0) [] A1 c1 none 0 gb (.slice none 0 0) [] w w6 (by omega) (Kd.R_reads' hR).2.1 (by simp) (by have := diagsOf_le a0 hn; simp; omega) (by have := trisOf_le a0 hn; unfold trisOf at this; simp; omega)
    ⟨Kd.C_below (Kd.R_reads' hR).2.2 hb, fun a ha hne => by
     subst ha
     obtain ⟨g, rfl⟩ := Kd.R_head hR
     have := Kd.R_lt hR g rfl
     refine ⟨fun e => ?_, by simp [Value.ownBlock]⟩
     have e : g = gb := e
     omega⟩
    ⟨Kd.C_nil _ _, fun a ha => by cases ha⟩
    ⟨hx, Kd.S_nil _ _ _ _ _, below_then hB (below_size hB) hb, by rw [hg]; exact below_size hB⟩
   refine h1.mono ?_
   rintro e w7 ⟨rfl, v', hl, _⟩
   exact ⟨rfl, v', hl⟩
  have HK := Aside0.mk hkey
  have HNN := Aside0.mk hn
  obtain ⟨N, hN⟩ : ∃ N : Nat, N = a0.toNat := ⟨_, rfl⟩
  have hN0 : (N : Int) = a0 := by omega
  have hD : diagsOf a0 = paRows a0 N 0 N := by unfold diagsOf; rw [hN]
  have HD := Aside0.mk hD
  obtain ⟨n1, n2⟩ := hn
  have HB0 := Aside0.mk (Below.refl w.heap.size w)
  subst hN0
  clear hkey hN hD
  go_enter Tryz.func22, Tryz.ntmps22
  go_wp2
  go_loopg [3, 4] (N + 1) (fun gg s3 s4 wr => ∃ (a : Nat) (acc : List S38), s4 = .int .i64 a ∧ a ≤ N ∧ Aside0 (N + 1 ≤ gg + a) ∧ Aside0 (acc ++ paRows N N a (N - a) = diagsOf N) ∧ Aside0 (Kd.R k38 38 wr w.heap.size (fun _ => True) s3 acc) ∧ Aside0 (Below w.heap.size w wr))
  case atStart => exact ⟨0, [], rfl, Nat.zero_le _, ⟨by omega⟩, ⟨by rw [HD.out]; rfl⟩, ⟨Kd.R_nil _ _ _ _ _⟩, HB0⟩
  case round =>
   clear HB0
   obtain ⟨a, acc, rfl, ha, HG, HE, HO, HB⟩ := hrel
   by_cases hlt : a < N
   ·have q0 : (a : Int) < (N : Int) := by omega
    have HP := Aside0.mk (show acc ++ paRow N a (a + 2) (N - (a + 2)) ++ paRows N N (a + 1) (N - (a + 1)) = diagsOf N by
     have h1 := HE.out
     rw [show N - a = (N - (a + 1)) + 1 by omega, paRows_succ] at h1
     rw [← h1, List.append_assoc])
    clear HE
    go_wp2
    go_loopg [3, 5] (N + 3) (fun gg s3 s5 wr => ∃ (b : Nat) (acc : List S38), s5 = .int .i64 b ∧ b ≤ N + 2 ∧ a + 2 ≤ b ∧ Aside0 (N + 3 ≤ gg + b) ∧ Aside0 (acc ++ paRow N a b (N - b) ++ paRows N N (a + 1) (N - (a + 1)) = diagsOf N) ∧ Aside0 (Kd.R k38 38 wr w.heap.size (fun _ => True) s3 acc) ∧ Aside0 (Below w.heap.size w wr))
    case atStart => exact ⟨a + 2, acc, by go_num, by omega, Nat.le_refl _, ⟨by omega⟩, HP, HO, HB⟩
    case round =>
     clear HP HO HB
     obtain ⟨b, acc, rfl, hb, hab, HG2, HE, HO, HB⟩ := hrel
     by_cases hbt : b < N
     ·have q1 : (b : Int) < (N : Int) := by omega
      have hE := HE.out
      rw [show N - b = (N - (b + 1)) + 1 by omega, paRow_succ] at hE
      have HDI := Aside0.mk (poDiag_is N HNN.out a b (by omega) (by omega))
      have HLEN := Aside0.mk (show acc.length ≤ 20 by
       have h1 := congrArg List.length HE.out
       have h2 := diagsOf_le N HNN.out
       simp only [List.length_append] at h1
       omega)
      clear HE
      cases hd : pdB N a b with
      | true =>
       have HE2 := Aside0.mk (show (acc ++ [(⟨(a : Int), (b : Int)⟩ : S38)]) ++ paRow N a (b + 1) (N - (b + 1)) ++ paRows N N (a + 1) (N - (a + 1)) = diagsOf N by
        rw [← hE, hd, if_pos rfl]
        simp only [List.append_assoc])
       have HDT := Aside0.mk (HDI.out.trans (congrArg some hd))
       clear hE HDI hd
       go_wp2_with (first
        | ((with_reducible refine gate_dst (N := 6) rfl ?_); refine bxe_ 6 #[.int .i64 0, .int .i64 0] 38 ?_; intro gd hg w9 hbox hb9; have BK := Aside0.mk hbox; have GE := Aside0.mk (show w.heap.size ≤ gd by rw [hg]; exact below_size HB.out); replace HO := Aside0.mk (Kd.R_below (Kd.R_elderB HO.out gd (Nat.le_of_eq hg.symm)) hb9); replace HB := Aside0.mk (below_step HB.out hb9); clear hb9 hbox hg; have hcz_0 := blc_ (.int .i64 0) BK 0; have hcz_1 := blc_ (.int .i64 0) BK 1; have hfz_0 := blk_frozen BK.out 0; have hfz_1 := blk_frozen BK.out 1)
        | (go_at_call 35; refine (spec_poDiagonal.calls N a b true _ HDT.out).mono ?_; rintro e w11 ⟨rfl, hb11⟩; replace HO := Aside0.mk (Kd.R_below (Kd.R_mono (Kd.R_far (p := ⟨gd, 1, none⟩) (Kd.R_far (p := ⟨gd, 0, none⟩) (Kd.R_mono HO.out (fun k_ hk => (⟨hk, hk.2⟩ : _ ∧ k_ ≠ gd))) (fun _ hk => hk.2) (.int .i64 a)) (fun _ hk => hk.2) (.int .i64 b)) (fun _ h_ => h_.1)) hb11); replace BK := Aside0.mk (blk_below (g := gd) (o := .cells #[.int .i64 a, .int .i64 b] 38 (0, 0)) (by refine blk_put (cs := #[.int .i64 a, .int .i64 0]) ?_ 1 _ rfl; refine blk_put (cs := #[.int .i64 0, .int .i64 0]) ?_ 0 _ rfl; exact BK.out) hb11); replace HB := Aside0.mk (below_step (below_set (below_set HB.out GE.out) GE.out) hb11); clear hb11; have hcx_0 : w11.cell? ⟨gd, 0, none⟩ = some (.int .i64 a) := (blk_cell BK.out 0).trans rfl; have hcx_1 : w11.cell? ⟨gd, 1, none⟩ = some (.int .i64 b) := (blk_cell BK.out 1).trans rfl)
        | ((with_reducible refine gate_builtin (b := .append) (xs := #[.tmp 26, .tmp 28]) rfl ?_); at_builtin; refine Kd.R_append k38 (w0 := w) w.heap.size rfl (.tmp 26) (.tmp 28) 27 38 (.agg #[(.int .i64 0), (.int .i64 0)]) 16 rfl Tryz.underlying27 info38 rfl (by decide) (by omega) u3 acc (⟨(a : Int), (b : Int)⟩ : S38) [.int .i64 a, .int .i64 b] (fun k_ => k_ ≠ gd) (fun _ => False) rfl rfl ?aP (fun _ hk => hk.elim) ?aF ?aO ?aB ?aS ?aL ?_; (case aP => exact k38_mkM _ _ _ (⟨(a : Int), (b : Int)⟩ : S38)); (case aB => exact HB.out); (case aF => exact (fun k_ hk => Kd.freshB (g := gd) (o := .cells #[.int .i64 a, .int .i64 b] 38 (0, 0)) BK.out k_ hk)); (case aO => exact Kd.R_mono HO.out (fun _ hk => hk.2)); (case aS => exact below_size HB.out); (case aL => have := HLEN.out; omega); intro v204 w13 ho hb hg hat; have n1_ := Aside0.mk hb; have n2_ := Aside0.mk (Kd.R_mono ho (fun _ _ => trivial)); clear HB HO ho hb hg hat; have HB := n1_; have HO := n2_; clear n1_ n2_))
       go_roundg (N + 2 - b)
       case measure => have := HG2.out; omega
       case rel => exact ⟨b + 1, acc ++ [(⟨(a : Int), (b : Int)⟩ : S38)], by go_num, by omega, by omega, ⟨by omega⟩, HE2, HO, HB⟩
      | false =>
       have HE2 := Aside0.mk (show acc ++ paRow N a (b + 1) (N - (b + 1)) ++ paRows N N (a + 1) (N - (a + 1)) = diagsOf N by
        rw [← hE, hd, if_neg (by simp), List.nil_append])
       have HDT := Aside0.mk (HDI.out.trans (congrArg some hd))
       clear hE HDI hd
       go_wp2_with (first
        | ((with_reducible refine gate_dst (N := 6) rfl ?_); refine bxe_ 6 #[.int .i64 0, .int .i64 0] 38 ?_; intro gd hg w9 hbox hb9; have BK := Aside0.mk hbox; have GE := Aside0.mk (show w.heap.size ≤ gd by rw [hg]; exact below_size HB.out); replace HO := Aside0.mk (Kd.R_below (Kd.R_elderB HO.out gd (Nat.le_of_eq hg.symm)) hb9); replace HB := Aside0.mk (below_step HB.out hb9); clear hb9 hbox hg; have hcz_0 := blc_ (.int .i64 0) BK 0; have hcz_1 := blc_ (.int .i64 0) BK 1; have hfz_0 := blk_frozen BK.out 0; have hfz_1 := blk_frozen BK.out 1)
        | (go_at_call 35; refine (spec_poDiagonal.calls N a b false _ HDT.out).mono ?_; rintro e w11 ⟨rfl, hb11⟩; have n0_ := Aside0.mk (Kd.R_below (Kd.R_mono (Kd.R_far (p := ⟨gd, 1, none⟩) (Kd.R_far (p := ⟨gd, 0, none⟩) (Kd.R_mono HO.out (fun k_ hk => (⟨hk, hk.2⟩ : _ ∧ k_ ≠ gd))) (fun _ hk => hk.2) (.int .i64 a)) (fun _ hk => hk.2) (.int .i64 b)) (fun _ h_ => h_.1)) hb11); have n2_ := Aside0.mk (below_step (below_set (below_set HB.out GE.out) GE.out) hb11); clear HO HB; have HO := n0_; have HB := n2_; clear n0_ n2_ hb11))
       go_roundg (N + 2 - b)
       case measure => have := HG2.out; omega
       case rel => exact ⟨b + 1, acc, by go_num, by omega, by omega, ⟨by omega⟩, HE2, ⟨Kd.R_mono HO.out (fun _ _ => trivial)⟩, HB⟩
     ·have q1 : ¬ (b : Int) < (N : Int) := by omega
      have HE2 := Aside0.mk (show acc ++ paRows N N (a + 1) (N - (a + 1)) = diagsOf N by
       have h1 := HE.out
       rw [show N - b = 0 by omega, show paRow N a b 0 = [] from rfl, List.append_nil] at h1
       exact h1)
      clear HE
      go_wp2
      go_roundg (N - a)
      case measure => have := HG.out; omega
      case rel => exact ⟨a + 1, acc, by go_num, by omega, ⟨by omega⟩, HE2, HO, HB⟩
   ·have q0 : ¬ (a : Int) < (N : Int) := by omega
    have hE : acc = diagsOf N := by
     have h1 := HE.out
     rw [show N - a = 0 by omega, show paRows N N a 0 = [] from rfl, List.append_nil] at h1
     exact h1
    subst hE
    obtain ⟨A1, c1, rfl⟩ := Kd.R_slice HO.out
    clear HE
    go_wp2_with (first
     | ((with_reducible refine gate_dst (N := 7) rfl ?_); refine bxe_ 7 #[.slice none 0 0] 43 ?_; intro gb hg w6 hbox hb6; have HKC := Aside0.mk (HK.out A1 c1 gb _ w6 HO.out HB.out hg hbox hb6); clear hg hbox hb6)
     | (go_at_call 38; refine HKC.out.mono ?_; rintro e w7 ⟨rfl, v7, hl7⟩; have hx7 : w7.cell? ⟨gb, 0, none⟩ = some v7 := (blk_cell hl7.box 0).trans rfl; have HL7 := Aside0.mk hl7; clear hl7))
    go_ret
    exact ⟨v7, rfl, HL7.out.row, HL7.out.bel⟩
 ·rw [if_neg hn] at H
  cases H

end Go.Proofs.YtgblginphicacaaGreatDoor.PFnExactCountByFlips
