-- WRITTEN BY A PROGRAM OF THIS WORK (wip/tools/ppatch.py) for this claim.
import Derived.Test.YtgblginphicacaaGreatDoorPFnExactCountByFlipsx0
import Derived.Test.YtgblginphicacaaGreatDoorPFnExactCountByFlipsx10
import Derived.Test.YtgblginphicacaaGreatDoorPFnExactCountByFlipsx13
import Derived.Test.YtgblginphicacaaGreatDoorPFnExactCountByFlipsx14
import Derived.Test.YtgblginphicacaaGreatDoorPFnExactCountByFlipsx18
namespace Go.Proofs.YtgblginphicacaaGreatDoor.PFnExactCountByFlips
open Go.RowKit Go.Proofs.YtgblginphicacaaGreatDoorW.PrintWords Go.Proofs.YtgblginphicacaaGreatDoorW.PrintLast Go.Proofs.YtgblginphicacaaGreatDoorW.PrintMore
attribute [local go_sem] max2_int min2_int max_two min_two max_three min_three max_four min_four   -- for this text's walks alone
set_option linter.unusedVariables false
set_option linter.unusedSimpArgs false

/-! ### impl_CountByFlips: function 7 -/
theorem mp_law : Go.Maps.Keyed Tryz.prog 9 := Go.Maps.string_keyed Tryz.underlying9
theorem mp_zero (w : World) : (zeroValue 3).run Tryz.prog w = .ok (.int .i64 0) w := by kernel_rfl
def kLit (s : ByteArray) : Lit := .string s.data.toList
/-- What is looked up. -/
def lkC : List (ByteArray × Int) → ByteArray → Option Int
 | [], _ => none
 | (t, v) :: r, s => if t = s then some v else lkC r s
def mpD : List (ByteArray × Int) → DataW Unit
 | [] => .map []
 | (t, v) :: r => (mpD r).put (kLit t) (.lit (.int .i64 v))
theorem mpD_isMap : ∀ C : List (ByteArray × Int), Go.Maps.IsMap (mpD C)
 | [] => Go.Maps.isMap_empty
 | (_, _) :: r => (mpD_isMap r).put _ _
theorem kLit_key (s : ByteArray) : WideAt.IsKeyLit (kLit s) := trivial
theorem kLit_ne {s t : ByteArray} (h : t ≠ s) : kLit s ≠ kLit t := fun e => h (by
 unfold kLit at e
 injection e with e
 cases s; cases t
 simp only [ByteArray.mk.injEq]
 exact (Array.toList_inj.1 e).symm)
theorem lkC_at (s : ByteArray) : ∀ C : List (ByteArray × Int), (mpD C).atKey (kLit s) (.lit (.int .i64 0)) = .lit (.int .i64 ((lkC C s).getD 0))
 | [] => by simp [mpD, lkC, DataW.atKey]
 | (t, v) :: r => by
  unfold mpD lkC
  by_cases h : t = s
  ·subst h
   rw [if_pos rfl, Go.Maps.atKey_put_same (mpD_isMap r) (kLit_key t)]
   rfl
  ·rw [if_neg h, Go.Maps.atKey_put_other (kLit_ne h), lkC_at s r]
theorem lkC_has (s : ByteArray) : ∀ C : List (ByteArray × Int), Go.Maps.has (mpD C) (kLit s) = (lkC C s).isSome
 | [] => rfl
 | (t, v) :: r => by
  unfold mpD lkC
  by_cases h : t = s
  ·subst h
   rw [if_pos rfl, Go.Maps.has_put_same (mpD_isMap r) (kLit_key t)]
   rfl
  ·rw [if_neg h, Go.Maps.has_put_other (kLit_ne h), lkC_has s r]
theorem mp_key {s : ByteArray} (h : s.size ≤ maxLen) : keyOf Tryz.prog 9 (.string s) = some (kLit s) := Go.WideMaps.keyOf_string_mk Tryz.underlying9 h
/-- Block B of the world is the map with these entries. -/
def Mp (w : World) (B : Nat) (C : List (ByteArray × Int)) : Prop := w.ownsMap Tryz.prog 9 (plainElem Tryz.prog 3) B C.length (mpD C)
theorem Mp.blk {w w' : World} {B : Nat} {C : List (ByteArray × Int)} (h : Mp w B C) (hb : w'.heap[B]? = w.heap[B]?) : Mp w' B C := by
 obtain ⟨es, clock, h1, F, hs, hD⟩ := h
 exact ⟨es, clock, hb.trans h1, F, hs, hD⟩
theorem Mp.lt {w : World} {B : Nat} {C : List (ByteArray × Int)} (h : Mp w B C) : B < w.heap.size := World.ownsMap.lt h
theorem Mp.below {w w' : World} {B : Nat} {C : List (ByteArray × Int)} (h : Mp w B C) (hb : Below w.heap.size w w') : Mp w' B C := h.blk (hb.block B h.lt)
theorem mpD_val {C : List (ByteArray × Int)} {s : ByteArray} {far : Int} (h : (mpD C).atKey (kLit s) (.lit (.int .i64 0)) = .lit (.int .i64 far)) : far = (lkC C s).getD 0 := by
 rw [lkC_at] at h
 injection h with h
 injection h with _ h
 exact h.symm

theorem q_add (a : Addr) (n : Nat) : (a.add n).block = a.block := by
 unfold Addr.add
 split <;> rfl
theorem q_blk {w : World} {A : Option Addr} {l : List S38} (h : Kd.C k38 w A l.length l) (hne : l ≠ []) (a : Addr) (ha : A = some a) : a.block < w.heap.size := by
 have hp := List.length_pos_iff.2 hne
 obtain ⟨ad, e, hc⟩ := h.2.2 hp
 rw [ha] at e
 injection e with e
 subst e
 obtain ⟨c, hs, hr, hcell⟩ := hc 0 _ (List.getElem?_eq_getElem hp)
 obtain rfl := k38_open hr
 have h1 := World.block_lt_of_cell? w _ (hcell 0 _ rfl)
 rwa [q_add] at h1
theorem q_move {w w1 : World} {A : Option Addr} {l : List S38} (h : Kd.C k38 w A l.length l) (hne : ∀ a, l ≠ [] → A = some a → a.block < w.heap.size → w1.heap[a.block]? = w.heap[a.block]?) : Kd.C k38 w1 A l.length l := by
 refine ⟨h.1, h.2.1, fun hn => ?_⟩
 obtain ⟨ad, e, hc⟩ := h.2.2 hn
 refine ⟨ad, e, fun j p hj => ?_⟩
 obtain ⟨c, hs, hr, hcell⟩ := hc j p hj
 have hr2 : k38.K w1 p c := by
  obtain rfl := k38_open hr
  exact k38_mk w1 p
 refine ⟨c, hs, hr2, fun i u hu => ?_⟩
 have h1 := hcell i u hu
 have h2 := World.block_lt_of_cell? w _ h1
 rw [q_add] at h2
 have h3 : w1.cell? (ad.add (j * k38.sz + i)) = w.cell? (ad.add (j * k38.sz + i)) := World.cell?_of_block (by rw [q_add]; exact hne ad (List.length_pos_iff.1 hn) e h2)
 exact h3.trans h1
/-- A list that is read, apart from the map's block and the queue's. -/
structure Rw (w : World) (B g : Nat) (A : Option Addr) (l : List S38) : Prop where
 c : Kd.C k38 w A l.length l
 far : ∀ a, A = some a → l ≠ [] → a.block ≠ B ∧ a.block ≠ g
theorem Rw.keep {w w1 : World} {B g : Nat} {A : Option Addr} {l : List S38} (h : Rw w B g A l) (hk : ∀ b, b < w.heap.size → b ≠ B → b ≠ g → w1.heap[b]? = w.heap[b]?) : Rw w1 B g A l :=
 ⟨q_move h.c (fun a hn ha hl => hk _ hl (h.far a ha hn).1 (h.far a ha hn).2), h.far⟩
theorem Rw.to {w : World} {B g g' : Nat} {A : Option Addr} {l : List S38} (h : Rw w B g A l) (hg : w.heap.size ≤ g') : Rw w B g' A l :=
 ⟨h.c, fun a ha hn => ⟨(h.far a ha hn).1, fun e => by have := q_blk h.c hn a ha; omega⟩⟩
/-- The queue: slots of one's own that hold lists. -/
structure Qu (w0 w : World) (B g off cap : Nat) (Q : List (List S38)) (vs : List Value) : Prop where
 ge : w0.heap.size ≤ g
 ne : g ≠ B
 le : Q.length ≤ cap
 len : vs.length = Q.length
 blk : ∃ cur, w.heap[g]? = some (.cells cur 27 (0, 0)) ∧ off + cap ≤ cur.size ∧ ∀ j, j < vs.length → cur[off + j]? = vs[j]?
 row : ∀ (j : Nat) (q : List S38), Q[j]? = some q → ∃ A c, vs[j]? = some (Value.slice A q.length c) ∧ q.length ≤ c ∧ Rw w B g A q
theorem Qu.keep {w0 w w1 : World} {B g off cap : Nat} {Q : List (List S38)} {vs : List Value} (h : Qu w0 w B g off cap Q vs) (hk : ∀ b, b < w.heap.size → b ≠ B → w1.heap[b]? = w.heap[b]?) : Qu w0 w1 B g off cap Q vs := by
 obtain ⟨cur, h1, h2, h3⟩ := h.blk
 exact ⟨h.ge, h.ne, h.le, h.len, ⟨cur, (hk g (blk_lt h1) h.ne).trans h1, h2, h3⟩, fun j q hj => by
  obtain ⟨A, c, e1, e2, e3⟩ := h.row j q hj
  exact ⟨A, c, e1, e2, e3.keep (fun b hb hB _ => hk b hb hB)⟩⟩
theorem Qu.below {w0 w w1 : World} {B g off cap : Nat} {Q : List (List S38)} {vs : List Value} (h : Qu w0 w B g off cap Q vs) (hb : Below w.heap.size w w1) : Qu w0 w1 B g off cap Q vs :=
 h.keep (fun b hl _ => hb.block b hl)
theorem Qu.cell {w0 w : World} {B g off cap : Nat} {Q : List (List S38)} {vs : List Value} (h : Qu w0 w B g off cap Q vs) (j : Nat) (u : Value) (hj : vs[j]? = some u) : w.cell? ⟨g, off + j, none⟩ = some u := by
 obtain ⟨cur, h1, _, h3⟩ := h.blk
 have hl := (List.getElem?_eq_some_iff.1 hj).1
 rw [blk_cell h1, h3 j hl, hj]
theorem Qu.head {w0 w : World} {B g off cap : Nat} {q : List S38} {Q : List (List S38)} {vs : List Value} (h : Qu w0 w B g off cap (q :: Q) vs) : ∃ A c, w.cell? ⟨g, off, none⟩ = some (Value.slice A q.length c) ∧ q.length ≤ c ∧ Rw w B g A q := by
 obtain ⟨A, c, e1, e2, e3⟩ := h.row 0 q rfl
 exact ⟨A, c, h.cell 0 _ e1, e2, e3⟩
theorem Qu.tail {w0 w : World} {B g off cap : Nat} {q : List S38} {Q : List (List S38)} {vs : List Value} (h : Qu w0 w B g off cap (q :: Q) vs) : Qu w0 w B g (if cap = 1 then off else off + 1) (cap - 1) Q vs.tail := by
 have hle := h.le
 have hln := h.len
 rw [List.length_cons] at hle hln
 obtain ⟨cur, h1, h2, h3⟩ := h.blk
 have ht : vs.tail.length = Q.length := by rw [List.length_tail]; omega
 refine ⟨h.ge, h.ne, by omega, ht, ⟨cur, h1, by split <;> omega, fun j hj => ?_⟩, fun j q' hj => ?_⟩
 ·have hc : ¬ cap = 1 := by omega
  rw [if_neg hc, List.getElem?_tail, ← h3 (j + 1) (by omega)]
  congr 1
  omega
 ·obtain ⟨A, c, e1, e2, e3⟩ := h.row (j + 1) q' (by simpa using hj)
  exact ⟨A, c, by rw [List.getElem?_tail]; exact e1, e2, e3⟩
theorem Qu.spare {w0 w : World} {B g off cap : Nat} {Q : List (List S38)} {vs : List Value} (h : Qu w0 w B g off cap Q vs) (hr : Q.length + 1 ≤ cap) (u : Value) : ∀ j, j < [u].length → (w.cell? ⟨g, off + Q.length * 1 + j, none⟩).isSome = true ∧ w.frozen? ⟨g, off + Q.length * 1 + j, none⟩ = false := by
 obtain ⟨cur, h1, h2, _⟩ := h.blk
 intro j hj
 have hj0 : j = 0 := by simpa using hj
 subst hj0
 refine ⟨?_, blk_frozen h1 _⟩
 rw [blk_cell h1]
 have : off + Q.length * 1 + 0 < cur.size := by omega
 rw [Array.getElem?_eq_getElem this]
 rfl
theorem Qu.room {w0 w : World} {B g off cap : Nat} {Q : List (List S38)} {vs : List Value} (h : Qu w0 w B g off cap Q vs) (hr : Q.length + 1 ≤ cap) {A : Option Addr} {c : Nat} {l : List S38} (hl : l.length ≤ c) (hR : Rw w B g A l) :
  Qu w0 (w.setCells g (off + Q.length) [Value.slice A l.length c]) B g off cap (Q ++ [l]) (vs ++ [Value.slice A l.length c]) := by
 obtain ⟨cur, h1, h2, h3⟩ := h.blk
 have hln := h.len
 have hk : ∀ b, b ≠ g → (w.setCells g (off + Q.length) [Value.slice A l.length c]).heap[b]? = w.heap[b]? := fun b hb => by
  show (w.setCell ⟨g, off + Q.length, none⟩ _).heap[b]? = _
  exact Below.heap_setCell w _ _ b (by exact hb)
 have hb := blk_set h1 (off + Q.length) (.slice A l.length c)
 refine ⟨h.ge, h.ne, by rw [List.length_append, List.length_singleton]; exact hr, by simp [hln], ⟨_, hb, by rw [Array.size_setIfInBounds]; exact h2, fun j hj => ?_⟩, fun j q hj => ?_⟩
 ·rw [List.length_append, List.length_singleton] at hj
  rw [Array.getElem?_setIfInBounds]
  by_cases e : j = vs.length
  ·subst e
   rw [if_pos (by omega), if_pos (by omega), List.getElem?_append_right (Nat.le_refl _), Nat.sub_self]
   rfl
  ·rw [if_neg (by omega), List.getElem?_append_left (by omega)]
   exact h3 j (by omega)
 ·by_cases e : j < Q.length
  ·rw [List.getElem?_append_left e] at hj
   obtain ⟨A', c', e1, e2, e3⟩ := h.row j q hj
   exact ⟨A', c', by rw [List.getElem?_append_left (by omega)]; exact e1, e2, e3.keep (fun b _ _ hg => hk b hg)⟩
  ·have e0 : j = Q.length := by
    have := (List.getElem?_eq_some_iff.1 hj).1
    rw [List.length_append, List.length_singleton] at this
    omega
   subst e0
   rw [List.getElem?_append_right (Nat.le_refl _), Nat.sub_self] at hj
   obtain rfl : l = q := by simpa using hj
   exact ⟨A, c, by rw [List.getElem?_append_right (by omega), hln, Nat.sub_self]; rfl, hl, hR.keep (fun b _ _ hg => hk b hg)⟩
theorem Qu.grow {w0 w w1 : World} {B g off cap : Nat} {Q : List (List S38)} {vs : List Value} (h : Qu w0 w B g off cap Q vs) (hw0 : w0.heap.size ≤ w.heap.size) (hB : B < w.heap.size) {A : Option Addr} {c : Nat} {l : List S38} (hl : l.length ≤ c) (hR : Rw w B g A l)
  {v' : Value} (ho : w1.ownsRow w.heap.size 27 1 v' (Q.length + 1) (vs ++ [Value.slice A l.length c])) (hgr : w.grownBy w1 none) :
  ∃ g' cap', v' = .slice (some ⟨g', 0, none⟩) (Q ++ [l]).length cap' ∧ Qu w0 w1 B g' 0 cap' (Q ++ [l]) (vs ++ [Value.slice A l.length c]) := by
 have hln := h.len
 have hk : ∀ b, b < w.heap.size → w1.heap[b]? = w.heap[b]? := fun b hb => hgr.block b hb (by simp)
 rcases ho.2 with ⟨_, h0⟩ | ⟨g', cap', cur, rfl, hb, h1, h2, _, h4, h5⟩
 ·omega
 ·refine ⟨g', cap', by rw [List.length_append, List.length_singleton], ?_⟩
  have hg' : g' ≠ B := by omega
  refine ⟨by omega, hg', by rw [List.length_append, List.length_singleton]; exact h2, by simp [hln], ⟨cur, h1, by omega, fun j hj => ?_⟩, fun j q hj => ?_⟩
  ·rw [← h5, List.getElem?_take_of_lt (by simp [hln] at hj; omega), Nat.zero_add]
   simp
  ·by_cases e : j < Q.length
   ·rw [List.getElem?_append_left e] at hj
    obtain ⟨A', c', e1, e2, e3⟩ := h.row j q hj
    exact ⟨A', c', by rw [List.getElem?_append_left (by omega)]; exact e1, e2, (e3.to hb).keep (fun b hl _ _ => hk b hl)⟩
   ·have e0 : j = Q.length := by
     have := (List.getElem?_eq_some_iff.1 hj).1
     rw [List.length_append, List.length_singleton] at this
     omega
    subst e0
    rw [List.getElem?_append_right (Nat.le_refl _), Nat.sub_self] at hj
    obtain rfl : l = q := by simpa using hj
    exact ⟨A, c, by rw [List.getElem?_append_right (by omega), hln, Nat.sub_self]; rfl, hl, (hR.to hb).keep (fun b hl _ _ => hk b hl)⟩
/-- A list of one's own, newer than both blocks. -/
theorem Rw.new {w w1 : World} {B g c : Nat} {A : Option Addr} {l : List S38} (hB : B < w.heap.size) (hg : g < w.heap.size) (h : Kd.R k38 38 w1 w.heap.size (fun _ => True) (.slice A l.length c) l) : Rw w1 B g A l := by
 refine ⟨(Kd.R_reads' h).2.2, fun a ha hn => ?_⟩
 subst ha
 obtain ⟨g2, rfl⟩ := Kd.R_head h
 have h1 : w.heap.size ≤ g2 := Kd.R_base h g2 rfl
 exact ⟨fun e => by have e : g2 = B := e; omega, fun e => by have e : g2 = g := e; omega⟩
theorem Qu.first {w w2 : World} {c : Nat} {A : Option Addr} {l : List S38} (hC : Kd.C k38 w A l.length l) (hc : l.length ≤ c) (hb : Below w.heap.size w w2) (hB2 : w.heap.size < w2.heap.size) :
  Qu w (w2.alloc (.cells #[.slice A l.length c] 27)) w.heap.size w2.heap.size 0 1 [l] [.slice A l.length c] := by
 have hb2 := below_alloc (Below.refl w2.heap.size w2) (.cells #[.slice A l.length c] 27)
 refine ⟨by omega, by omega, by simp, rfl, ⟨_, blk_new _ _, by simp, fun j hj => by simp⟩, fun j q hj => ?_⟩
 have hl := (List.getElem?_eq_some_iff.1 hj).1
 have hj0 : j = 0 := by simpa using hl
 subst hj0
 obtain rfl : l = q := by simpa using hj
 refine ⟨A, c, rfl, hc, ⟨Kd.C_below (Kd.C_below hC hb) hb2, fun a ha hn => ?_⟩⟩
 have := q_blk hC hn a ha
 exact ⟨by omega, by omega⟩
theorem q_new (W : World) (v : Value) (t : TypeId) (j : Nat) (u : Value) (hj : [v][j]? = some u) : (W.alloc (.cells #[v] t)).cell? ((⟨W.heap.size, 0, none⟩ : Addr).add j) = some u := by
 have hl := (List.getElem?_eq_some_iff.1 hj).1
 have hj0 : j = 0 := by simpa using hl
 subst hj0
 rw [Addr.add_lit]
 have := blk_cell (blk_new W (.cells #[v] t)) 0
 rw [Nat.zero_add, this]
 simpa using hj
theorem q_one {v : Value} (h : v.oneCell' = true) : ∀ u ∈ [v], u.oneCell' = true := by
 intro u hu
 obtain rfl := List.mem_singleton.1 hu
 exact h
theorem Qu.lt {w0 w : World} {B g off cap : Nat} {Q : List (List S38)} {vs : List Value} (h : Qu w0 w B g off cap Q vs) : g < w.heap.size := by
 obtain ⟨cur, h1, _⟩ := h.blk
 exact blk_lt h1
theorem q_size (W : World) (o : Obj) : (W.alloc o).heap.size = W.heap.size + 1 := Array.size_push ..

/-- The flips of one triangulation: what is new is put into the map and behind the queue. -/
def dstIn (k : Nat) (n : Int) (q : List S38) (far : Int) : List S38 → List (ByteArray × Int) → List (List S38) → Option (List (ByteArray × Int) × List (List S38))
 | [], C, Q => some (C, Q)
 | d :: r, C, Q => (impl_flipped.f k n q d.f0 d.f1).bind fun nx => (impl_diagonalsText.f k nx).bind fun s =>
   if s.size ≤ 1000000 ∧ C.length < 1000000 ∧ Q.length < 1000000 then (if (lkC C s).isSome = true then dstIn k n q far r C Q else dstIn k n q far r ((s, wrap64 (far + 1)) :: C) (Q ++ [nx])) else none
/-- The queue is worked off. -/
def dstLoop (k : Nat) (n : Int) : Nat → List (ByteArray × Int) → List (List S38) → Option (List (ByteArray × Int))
 | 0, _, _ => none
 | _ + 1, C, [] => some C
 | m + 1, C, q :: Q => (impl_diagonalsText.f k q).bind fun s => if s.size ≤ 1000000 ∧ q.length ≤ 1000000 then (dstIn k n q ((lkC C s).getD 0) q C (q :: Q)).bind fun R => dstLoop k n m R.1 (R.2.drop 1) else none
def dstF (k : Nat) (n : Int) (ds : List S38) : Option (List (ByteArray × Int)) := (impl_diagonalsText.f k ds).bind fun s => if s.size ≤ 1000000 then dstLoop k n k [(s, 0)] [ds] else none
theorem dstIn_mono (k : Nat) (n : Int) (q : List S38) (far : Int) : ∀ (l : List S38) (C : List (ByteArray × Int)) (Q : List (List S38)), LeO (dstIn k n q far l C Q) (dstIn (k + 1) n q far l C Q)
 | [], _, _ => LeO.refl _
 | d :: r, C, Q => by
  unfold dstIn
  refine LeO.bind (impl_flipped.mono _ _ _ _ _) (fun nx => LeO.bind (impl_diagonalsText.mono _ _) (fun s => ?_))
  refine LeO.ite (LeO.ite (dstIn_mono k n q far r _ _) (dstIn_mono k n q far r _ _)) (LeO.refl _)
theorem dstLoop_mono (k : Nat) (n : Int) : ∀ (m : Nat) (C : List (ByteArray × Int)) (Q : List (List S38)), LeO (dstLoop k n m C Q) (dstLoop (k + 1) n (m + 1) C Q)
 | 0, _, _ => LeO.none _
 | m + 1, C, [] => LeO.refl _
 | m + 1, C, q :: Q => by
  unfold dstLoop
  refine LeO.bind (impl_diagonalsText.mono _ _) (fun s => LeO.ite (LeO.bind (dstIn_mono k n q _ q _ _) (fun R => dstLoop_mono k n m _ _)) (LeO.refl _))
theorem dstF_mono (k : Nat) (n : Int) (ds : List S38) : LeO (dstF k n ds) (dstF (k + 1) n ds) := by
 unfold dstF
 exact LeO.bind (impl_diagonalsText.mono _ _) (fun s => LeO.ite (dstLoop_mono k n k _ _) (LeO.refl _))
theorem wpList_insert_own {H : Type} {P : Program} (w : World) {ops : Array Oper} {rest : List Oper} {o : Oper} {a : Act} {Q : Exit → Act → World → Prop}
  (hg : o.guard = none) (m x v : Operand) (t : TypeId) (hop : o.op = Op.insert t m x v)
  (k e : TypeId) (K : Go.Maps.Keyed P k) (ht : P.underlying t = some (.map k e)) (R : Value → Option (DataW H × List MemPlace)) (b n : Nat) (D : DataW H)
  (hm : a.eval m = .map (some b)) (hown : w.ownsMap P k R b n D) (hn : n < maxLen) (key val : Value) (kl : Lit) (hx : a.eval x = key) (hv : a.eval v = val) (hkey : keyOf P k key = some kl)
  (d : DataW H) (ps : List MemPlace) (hval : R val = some (d, ps))
  (hK : ∀ w', w'.ownsMap P k R b (n + 1) (D.put kl d) → w.grownBy w' (some b) → wpList P ops Q rest (a.put o.dst undef) w') :
  wpList P ops Q (o :: rest) a w := by
 refine wpList_plain hg fun K' hK' => ?_
 obtain ⟨w', hrun, r1, r2⟩ := hown.update K ht hn hkey hval
 unfold Oper.wp
 simp [execOp, hop, hm, hx, hv, hrun, Result.andThen]
 exact hK' _ _ (hK w' r1 r2)
theorem q_info : (Tryz.prog.info? 27).map (fun i => (i.zero, i.size, i.bytes)) = some (some (.slice none 0 0), 1, 24) := by kernel_rfl
theorem q_info2 : ∃ i, Tryz.prog.info? 27 = some i ∧ i.zero = some (.slice none 0 0) ∧ i.size = 1 ∧ i.bytes = 24 := by
 obtain ⟨i, h1, h2⟩ := Option.map_eq_some_iff.1 q_info
 simp only [Prod.mk.injEq] at h2
 exact ⟨i, h1, h2.1, h2.2.1, h2.2.2⟩
theorem wrap_i1 (i : Nat) (h : i < 4611686018427387904) : wrap64 ((i : Int) + 1) = ((i + 1 : Nat) : Int) := by unfold wrap64; omega
theorem q_cut (g off m cap : Nat) (hm : 1 ≤ m) (hc : m ≤ cap) : ∀ W : World, (Instr.slice 43 (.slice (some ⟨g, off, none⟩) m cap) (some (.int .i64 1)) none none).run Tryz.prog W = .ok (.slice (some ⟨g, if cap = 1 then off else off + 1, none⟩) (m - 1) (cap - 1)) W := by
 intro W
 have hu := Tryz.underlying43
 go_simp
 rw [if_pos (by omega)]
 by_cases h : cap = 1
 ·rw [if_pos h, if_pos h]
 ·rw [if_neg h, if_neg h]
def dist.T9 : Bool × List (List Nat × List Nat) := (true, [([], []), ([], []), ([1], [1]), ([2], [2]), ([], []), ([0, 3, 4], [0, 3, 4]), ([5, 5, 0, 1, 2, 3, 4, 5], [5])])
def dist.B9 : List Nat := [0, 0, 2, 6, 0, 31, 63]
theorem dist.tab9 : rtab .any (opsOf Tryz.f17 9) = dist.T9 := by kernel_rfl
theorem dist.bits9 : waitsOk dist.T9.2 dist.B9 = true := by kernel_rfl
set_option maxHeartbeats 8000000 in
set_option maxRecDepth 100000 in
theorem distances_calls (k : Nat) (n : Int) (A1 : Option Addr) (c1 : Nat) (ds : List S38) (C : List (ByteArray × Int)) (w : World) (hr1 : Kd.C k38 w A1 ds.length ds) (hc1 : ds.length ≤ c1) (htab : TabOk w) (h : dstF k n ds = some C) :
  Calls Tryz.prog 17 #[.int .i64 n, .slice A1 ds.length c1] w fun e w' => ∃ B, e = .returned (.map (some B)) ∧ Mp w' B C ∧ w.heap.size ≤ B ∧ Below w.heap.size w w' := by
 have HR1 := Aside0.mk hr1
 have HC1 := Aside0.mk hc1
 have HTAB := Aside0.mk htab
 clear hr1 hc1 htab
 unfold dstF at h
 obtain ⟨s0, A0, h⟩ := Option.bind_eq_some_iff.mp h
 by_cases hs0 : s0.size ≤ 1000000
 case neg => rw [if_neg hs0] at h; cases h
 rw [if_pos hs0] at h
 have H' := Aside0.mk h
 have HS0 := Aside0.mk hs0
 have HA0 := Aside0.mk A0
 clear h hs0 A0
 have hmm := @run_makeMap Tryz.prog
 go_enter Tryz.func17, Tryz.ntmps17
 go_wp2_with (first | ((with_reducible refine gate_callee (f := 19) rfl ?_); refine goesL_ _ rfl rfl Tryz.func19 (by kernel_rfl) rfl #[.slice A1 ds.length c1] rfl (by (try simp only [List.map_toArray, List.map_cons, List.map_nil]); first | done | rfl) ?_; (refine (impl_diagonalsText.calls k _ _ ds s0 _ ?side1 ?side2 HA0.out ?side3).mono ?_); (case side1 => exact Kd.C_below HR1.out (below_alloc (Below.refl _ _) _)); (case side2 => exact HC1.out); (case side3 => exact HTAB.out.below (below_alloc (Below.refl _ _) _)); rintro e w1 ⟨rfl, hb⟩; refine ⟨_, rfl, ?_⟩; have HB1 := Aside0.mk hb; clear hb; have HM1 := Aside0.mk (Mp.below (B := w.heap.size) (C := []) (World.ownsMap_made w _ _ _) HB1.out)) | (refine wpList_insert_own _ rfl _ _ _ 41 rfl 9 3 mp_law Tryz.underlying41 (plainElem Tryz.prog 3) w.heap.size 0 (.map []) rfl HM1.out (by decide) _ _ _ rfl rfl (mp_key (by have := HS0.out; unfold maxLen; omega)) _ [] (plainElem_int Tryz.underlying3 rfl) ?_; intro w2 hown2 hgrow2; have HM2 := Aside0.mk (show Mp w2 w.heap.size [(s0, 0)] from hown2); have HB2 := Aside0.mk (pw_below_grown (below_step (below_alloc (Below.refl _ _) _) HB1.out) _ (below_size (below_step (below_alloc (Below.refl _ _) _) HB1.out)) hgrow2 (fun k_ hk_ => by injection hk_ with hk_; omega)); clear hown2 hgrow2 HB1 HM1))
 clear hmm
 go_loopg [6] k (fun kq v6 w' => ∃ (C1 : List (ByteArray × Int)) (Q1 : List (List S38)) (g off cap : Nat) (vs : List Value), v6 = .slice (some ⟨g, off, none⟩) Q1.length cap ∧ Aside0 (dstLoop k n kq C1 Q1 = some C) ∧ Aside0 (Mp w' w.heap.size C1) ∧ Aside0 (Qu w w' w.heap.size g off cap Q1 vs) ∧ Aside0 (Below w.heap.size w w'))
 case atStart => exact ⟨[(s0, 0)], [ds], _, _, _, _, rfl, H', ⟨Mp.below HM2.out (below_alloc (Below.refl _ _) _)⟩, ⟨Qu.first HR1.out HC1.out HB2.out HM2.out.lt⟩, ⟨below_alloc HB2.out _⟩⟩
 case round =>
  clear H' HM2 HB2 HA0 HS0
  obtain ⟨C1, Q1, g, off, cap, vs, rfl, HA, HM, HQ, HB⟩ := hrel
  cases gk with
  | zero => exact absurd HA.out (by simp [dstLoop])
  | succ k1 =>
   cases Q1 with
   | nil =>
    have H := HA.out
    simp only [dstLoop] at H
    obtain rfl := Option.some.inj H
    go_wp2
    go_ret
    exact ⟨_, rfl, HM.out, Nat.le_refl _, HB.out⟩
   | cons q Qt =>
    have H := HA.out
    simp only [dstLoop] at H
    obtain ⟨s1, A1', H⟩ := Option.bind_eq_some_iff.mp H
    by_cases hs1 : s1.size ≤ 1000000 ∧ q.length ≤ 1000000
    case neg => rw [if_neg hs1] at H; cases H
    rw [if_pos hs1] at H
    obtain ⟨R, AR, H⟩ := Option.bind_eq_some_iff.mp H
    obtain ⟨Aq, cq, hcell, hcq, hRq⟩ := HQ.out.head
    have H' := Aside0.mk H
    have HAR := Aside0.mk AR
    have HS1 := Aside0.mk hs1
    have HA1 := Aside0.mk A1'
    have HCq := Aside0.mk hcq
    have HRq := Aside0.mk hRq
    clear H AR hs1 A1' hcq hRq HA
    have hgt : ((0 : Int) < ((q :: Qt).length : Int)) = True := eq_true (by simp only [List.length_cons]; omega)
    have HTr := Aside0.mk (HTAB.out.below HB.out)
    go_wp2_with (first | ((with_reducible refine gate_callee (f := 19) rfl ?_); refine goesL_ _ rfl rfl Tryz.func19 (by kernel_rfl) rfl #[.slice Aq q.length cq] rfl (by (try simp only [List.map_toArray, List.map_cons, List.map_nil]); first | done | rfl) ?_; (refine (impl_diagonalsText.calls k _ _ q s1 _ HRq.out.c HCq.out HA1.out HTr.out).mono ?_); rintro e w3 ⟨rfl, hb⟩; refine ⟨_, rfl, ?_⟩; have hcell3 := (hb.cell (World.block_lt_of_cell? _ _ hcell)).trans hcell; have HM3 := Aside0.mk (HM.out.below hb); have HQ3 := Aside0.mk (HQ.out.below hb); have HB3 := Aside0.mk (below_step HB.out hb); clear hb HTr HM HQ HB hcell) | (refine wpList_lookup_own_int _ rfl _ _ 41 rfl 9 3 .i64 mp_law Tryz.underlying41 Tryz.underlying3 (mp_zero _) w.heap.size _ _ rfl HM3.out _ _ rfl (mp_key (by have := HS1.out.1; unfold maxLen; omega)) ?_; intro far hfar _; have HF := Aside0.mk hfar; clear hfar))
    have hfar : far = (lkC C1 s1).getD 0 := by
     have h9 := HF.out
     rw [lkC_at] at h9
     injection h9 with h9
     injection h9 with _ h9
     exact h9.symm
    have hv0 : vs[0]? = some (.slice Aq q.length cq) := by
     obtain ⟨A9, c9, e9, _, _⟩ := HQ3.out.row 0 q rfl
     have h9 := HQ3.out.cell 0 _ e9
     rw [Nat.add_zero, hcell3] at h9
     rw [e9, h9]
    rw [← hfar] at HAR
    have HV0 := Aside0.mk hv0
    have HQL := Aside0.mk HS1.out.2
    clear hv0 HF hfar hcell3 HRq H
    go_loopg [6, 34] q.length (fun kq v6 v34 w' => ∃ (i : Nat) (C2 : List (ByteArray × Int)) (Qi : List (List S38)) (g off cap : Nat) (vs : List Value), v34 = .int .i64 (i : Int) ∧ v6 = .slice (some ⟨g, off, none⟩) (Qi.length + 1) cap ∧ Aside0 (i + kq = q.length) ∧ Aside0 (dstIn k n q far (q.drop i) C2 (q :: Qi) = some R) ∧ Aside0 (vs[0]? = some (.slice Aq q.length cq)) ∧ Aside0 (Mp w' w.heap.size C2) ∧ Aside0 (Qu w w' w.heap.size g off cap (q :: Qi) vs) ∧ Aside0 (Below w.heap.size w w'))
    case atStart => exact ⟨0, C1, Qt, g, off, cap, vs, rfl, rfl, ⟨Nat.zero_add _⟩, by rw [List.drop_zero]; exact HAR, HV0, HM3, HQ3, HB3⟩
    case round =>
     clear HAR HV0 HM3 HQ3 HB3
     obtain ⟨i, C2, Qi, g2, off2, cap2, vs2, rfl, rfl, HI, HA2, HV, HM, HQ, HB⟩ := hrel
     by_cases hi : i < q.length
     case neg =>
      have hlt : decide ((i : Int) < (q.length : Int)) = false := decide_eq_false (by omega)
      have H2 := HA2.out
      rw [List.drop_of_length_le (by omega)] at H2
      simp only [dstIn] at H2
      obtain rfl := Option.some.inj H2
      have hle := HQ.out.le
      have hcut := q_cut g2 off2 (Qi.length + 1) cap2 (by omega) hle
      have HQt := Aside0.mk HQ.out.tail
      generalize (if cap2 = 1 then off2 else off2 + 1) = off3 at hcut HQt
      clear H2 HA2 HQ hle
      go_wp2
      go_roundg k1
      case measure => omega
      case rel => exact ⟨C2, Qi, g2, _, _, _, rfl, by simpa using H', HM, HQt, HB⟩
     case pos =>
      have hlt : decide ((i : Int) < (q.length : Int)) = true := decide_eq_true (by omega)
      have hp : (0 ≤ (i : Int)) = True := eq_true (by omega)
      have hq : ((i : Int) < (q.length : Int)) = True := eq_true (by omega)
      obtain ⟨A9, c9, e9, hc9, hR9⟩ := HQ.out.row 0 q rfl
      rw [HV.out] at e9
      injection e9 with e9
      injection e9 with e9 _ e9'
      subst e9 e9'
      obtain ⟨ad, e, hx0, hx1⟩ := at_T38 hR9.c (i : Int) (by omega) (by omega)
      subst e
      simp only [Int.toNat_natCast] at hx0 hx1
      obtain ⟨d, hd⟩ : ∃ d, d = rd_T38 q (i : Int) := ⟨_, rfl⟩
      have hdrop : q.drop i = d :: q.drop (i + 1) := by
       rw [List.drop_eq_getElem_cons hi, hd]
       unfold rd_T38
       rw [Int.toNat_natCast, List.getD_eq_getElem?_getD, List.getElem?_eq_getElem hi]
       rfl
      rw [← hd] at hx0 hx1
      have H2 := HA2.out
      rw [hdrop] at H2
      simp only [dstIn] at H2
      obtain ⟨nx, hnx, H2⟩ := Option.bind_eq_some_iff.mp H2
      obtain ⟨(s2 : ByteArray), hs2, H2⟩ := Option.bind_eq_some_iff.mp H2
      by_cases hlim : s2.size ≤ 1000000 ∧ C2.length < 1000000 ∧ (q :: Qi).length < 1000000
      case neg => rw [if_neg hlim] at H2; cases H2
      rw [if_pos hlim] at H2
      have HNX := Aside0.mk hnx
      have HS2 := Aside0.mk hs2
      have HL := Aside0.mk hlim
      have HA2' := Aside0.mk H2
      clear hnx hs2 hlim H2 hd hdrop HA2 hR9 hc9
      go_wp2_with (first | ((with_reducible refine gate_dst (N := 9) rfl ?_); refine bxe_ 9 #[.int .i64 0, .int .i64 0] 38 ?_; intro gb hg w7 hbox hb; have BK7 := Aside0.mk hbox; have HB7 := Aside0.mk hb; have HG7 := Aside0.mk hg; clear hbox hb hg; have hcz0 := blc_ (.int .i64 0) BK7 0; have hcz1 := blc_ (.int .i64 0) BK7 1; have hfz0 := blk_frozen BK7.out 0; have hfz1 := blk_frozen BK7.out 1))
      have hb8 : Below wr.heap.size wr ((w7.setCell ⟨gb, 0, none⟩ (.int .i64 d.f0)).setCell ⟨gb, 1, none⟩ (.int .i64 d.f1)) := below_set (below_set HB7.out (Nat.le_of_eq HG7.out.symm)) (Nat.le_of_eq HG7.out.symm)
      have BK8 : ((w7.setCell ⟨gb, 0, none⟩ (.int .i64 d.f0)).setCell ⟨gb, 1, none⟩ (.int .i64 d.f1)).heap[gb]? = some (.cells #[.int .i64 d.f0, .int .i64 d.f1] 38 (0, 0)) := blk_put (blk_put BK7.out 0 _ rfl) 1 _ rfl
      clear hcz0 hcz1 hfz0 hfz1 BK7 HB7
      generalize ((w7.setCell ⟨gb, 0, none⟩ (.int .i64 d.f0)).setCell ⟨gb, 1, none⟩ (.int .i64 d.f1)) = w8 at hb8 BK8 ⊢
      have hbd : Below w8.heap.size w8 w8.drew := below_drew (Below.refl _ _)
      have hb9 : Below wr.heap.size wr w8.drew := below_step hb8 hbd
      have HM9 := Aside0.mk (HM.out.below hb9)
      have HQ9 := Aside0.mk (HQ.out.below hb9)
      have HB9 := Aside0.mk (below_step HB.out hb9)
      have HTr := Aside0.mk (HTAB.out.below HB9.out)
      have HRq : Aside0 (Rw w8.drew w.heap.size g2 (some ad) q) := ⟨by
       obtain ⟨A9, c9, e9, _, hR9⟩ := HQ9.out.row 0 q rfl
       rw [HV.out] at e9
       injection e9 with e9
       injection e9 with e9 _ _
       rw [e9]
       exact hR9⟩
      have hs0 : w8.cell? ⟨g2, off2, none⟩ = some (.slice (some ad) q.length cq) := by
       have := (HQ.out.below hb8).cell 0 _ HV.out
       exact this
      have hs1 : w8.cell? ⟨gb, 0, none⟩ = some (.int .i64 d.f0) := (blk_cell BK8 0).trans rfl
      have hs2 : w8.cell? ⟨gb, 1, none⟩ = some (.int .i64 d.f1) := (blk_cell BK8 1).trans rfl
      clear hb8 BK8 hbd hb9 HM HQ HB hx0 hx1
      refine start_ (n := 7) (S := fun w' => w'.cell? ⟨g2, off2, none⟩ = some (.slice (some ad) q.length cq) ∧ w'.cell? ⟨gb, 0, none⟩ = some (.int .i64 d.f0) ∧ w'.cell? ⟨gb, 1, none⟩ = some (.int .i64 d.f1)) (ds := []) #[false, false, false, false, false, false, false] (by kernel_rfl) rfl rfl ⟨hs0, hs1, hs2⟩ (fun hHeld => ?_)
      refine with_tabW dist.tab9 dist.bits9 (fun HT_ HW_ => ?_)
      generalize w8.drew = w9 at hHeld HM9 HQ9 HB9 HRq HTr ⊢
      refine pux_ 0 38 HT_ ?_
      refine pux_ 1 39 HT_ ?_
      refine pux_ 2 40 HT_ ?_
      refine tak_ 3 41 HT_ HW_ hHeld ?_
      refine tak_ 4 42 HT_ HW_ hHeld ?_
      refine oner_ 5 43 HT_ (fun K hK => ?_)
      refine goes_ Tryz.func25 (by kernel_rfl) rfl #[.int .i64 n, .slice (some ad) q.length cq, .agg #[.int .i64 d.f0, .int .i64 d.f1]] (by rfl) rfl rfl (by (try simp only [List.map_toArray, List.map_cons, List.map_nil]); first | done | rfl) ?_
      refine (impl_flipped.calls k n (some ad) cq q d.f0 d.f1 nx _ HRq.out.c HCq.out HNX.out).mono ?_
      rintro e1 w10 ⟨vn, rfl, hRn, hb10⟩
      obtain ⟨An, cn, rfl⟩ := Kd.R_slice hRn
      refine ⟨_, rfl, ?_⟩
      have HB10 := Aside0.mk hb10
      have HRn := Aside0.mk hRn
      clear hb10 hRn
      refine hK.out _ _ ⟨(HB10.out.cell (World.block_lt_of_cell? _ _ (hHeld.1))).trans (hHeld.1), (HB10.out.cell (World.block_lt_of_cell? _ _ (hHeld.2.1))).trans (hHeld.2.1), (HB10.out.cell (World.block_lt_of_cell? _ _ (hHeld.2.2))).trans (hHeld.2.2)⟩ (fun hHeld => ?_)
      clear hK K
      refine nor_ 43 ?_
      refine pux_ 6 10 HT_ ?_
      refine done_ (done_of HT_.out (by kernel_rfl)) ?_
      have hRn := Kd.R_reads' HRn.out
      have HCn := Aside0.mk hRn.2.1
      have HKn := Aside0.mk (Rw.new HM9.out.lt HQ9.out.lt HRn.out)
      have HMc := Aside0.mk (HM9.out.below HB10.out)
      have HQc := Aside0.mk (HQ9.out.below HB10.out)
      have HBc := Aside0.mk (below_step HB9.out HB10.out)
      have t_ := HTr.out.below HB10.out
      clear hRn HRn HM9 HQ9 HB9 HRq HTr HB10 hHeld
      have HTr := Aside0.mk t_
      clear t_
      cases hsome : (lkC C2 s2).isSome
      ·have H3 := HA2'.out
       rw [hsome, if_neg (by simp)] at H3
       have HA3 := Aside0.mk H3
       have hhas : Go.Maps.has (mpD C2) (kLit s2) = false := (lkC_has s2 C2).trans hsome
       obtain ⟨ti, hti, hz, hsz, hby⟩ := q_info2
       clear H3 HA2' hsome
       go_wp2_with (first | ((with_reducible refine gate_callee (f := 19) rfl ?_); refine goesL_ _ rfl rfl Tryz.func19 (by kernel_rfl) rfl #[.slice An nx.length cn] rfl (by (try simp only [List.map_toArray, List.map_cons, List.map_nil]); first | done | rfl) ?_; (refine (impl_diagonalsText.calls k _ _ nx s2 _ HKn.out.c HCn.out HS2.out HTr.out).mono ?_); rintro e w11 ⟨rfl, hb⟩; refine ⟨_, rfl, ?_⟩; have m_ := HMc.out.below hb; have q_ := HQc.out.below hb; have b_ := below_step HBc.out hb; have k_ := HKn.out.keep (fun b hl _ _ => hb.block b hl); have t_ := HTr.out.below hb; clear HMc HQc HBc HKn HTr hb; have HMc := Aside0.mk m_; have HQc := Aside0.mk q_; have HBc := Aside0.mk b_; have HKn := Aside0.mk k_; have HTr := Aside0.mk t_; clear m_ q_ b_ k_ t_) | (refine wpList_lookup_own_ok_int _ rfl _ _ 41 rfl 9 3 .i64 mp_law Tryz.underlying41 Tryz.underlying3 (mp_zero _) w.heap.size _ _ rfl HMc.out _ _ rfl (mp_key (by have := HL.out.1; unfold maxLen; omega)) ?_; intro c2 _ _) | (refine wpList_mapUpdate_own _ rfl _ _ _ 41 rfl 9 3 mp_law Tryz.underlying41 (plainElem Tryz.prog 3) w.heap.size C2.length (mpD C2) rfl HMc.out (by have := HL.out.2.1; unfold maxLen; omega) _ _ _ rfl rfl (mp_key (by have := HL.out.1; unfold maxLen; omega)) _ [] (plainElem_int Tryz.underlying3 (wrap64_wf _)) ?_; intro w12 hown hgrow; have m_ : Mp w12 w.heap.size ((s2, wrap64 (far + 1)) :: C2) := hown; have q_ := HQc.out.keep (fun b hl hB => hgrow.block b hl (fun e => hB (Option.some.inj e))); have b_ := pw_below_grown HBc.out _ (below_size HBc.out) hgrow (fun k_ hk_ => by injection hk_ with hk_; omega); have k_ := HKn.out.keep (fun b hl hB _ => hgrow.block b hl (fun e => hB (Option.some.inj e))); clear HMc HQc HBc HKn HTr hown hgrow; have HMc := Aside0.mk m_; have HQc := Aside0.mk q_; have HBc := Aside0.mk b_; have HKn := Aside0.mk k_; clear m_ q_ b_ k_) | ((with_reducible refine gate_builtin (b := .append) rfl ?_); refine wpList_append_arg _ rfl _ _ 43 rfl 27 ti (.slice none 0 0) 1 24 Tryz.underlying43 hti hz hsz hby rfl (by decide) g2 off2 (Qi.length + 1) cap2 vs2 rfl ?aL (fun j u hj => (HQc.out.below (below_alloc (Below.refl _ _) _)).cell j u hj) ⟨w12.heap.size, 0, none⟩ 1 1 [.slice An nx.length cn] rfl rfl (fun j u hj => q_new _ _ _ j u hj) (q_one rfl) (fun hr => (HQc.out.below (below_alloc (Below.refl _ _) _)).spare hr _) ?a1 ?a2 ?aRoom ?aGrow; (case aL => rw [HQc.out.len]; simp); (case a1 => have := HL.out.2.2; simp only [List.length_cons] at this; unfold maxLen; omega); (case a2 => have := HL.out.2.2; simp only [List.length_cons] at this; omega)))
       case aRoom =>
        intro hroom
        have hbA := below_alloc (Below.refl w12.heap.size w12) (.cells #[.slice An nx.length cn] 27)
        have HQn := Aside0.mk ((HQc.out.below hbA).room hroom HCn.out (HKn.out.keep (fun b hl _ _ => hbA.block b hl)))
        have HMn := Aside0.mk ((HMc.out.below hbA).blk (w' := (w12.alloc (.cells #[.slice An nx.length cn] 27)).setCells g2 (off2 + (Qi.length + 1)) [.slice An nx.length cn]) (Below.heap_setCell _ ⟨g2, off2 + (Qi.length + 1), none⟩ _ _ (fun e => HQc.out.ne e.symm)))
        have HBn : Aside0 (Below w.heap.size w ((w12.alloc (.cells #[.slice An nx.length cn] 27)).setCells g2 (off2 + (Qi.length + 1)) [.slice An nx.length cn])) := ⟨below_set (below_step HBc.out hbA) HQc.out.ge⟩
        have HVL := Aside0.mk (show vs2.length = Qi.length + 1 from HQc.out.len)
        clear hbA HMc HQc HBc HKn hroom
        have HQn2 : Aside0 (Qu w ((w12.alloc (.cells #[.slice An nx.length cn] 27)).setCells g2 (off2 + (Qi.length + 1)) [.slice An nx.length cn]) w.heap.size g2 off2 cap2 (q :: (Qi ++ [nx])) (vs2 ++ [.slice An nx.length cn])) := HQn
        clear HQn
        have HQn := HQn2
        clear HQn2
        generalize ((w12.alloc (.cells #[.slice An nx.length cn] 27)).setCells g2 (off2 + (Qi.length + 1)) [.slice An nx.length cn]) = w13 at HQn HMn HBn ⊢
        go_wp2
        go_roundg (gk - 1)
        case measure => have := HI.out; omega
        case rel => exact ⟨i + 1, _, Qi ++ [nx], g2, off2, cap2, _, by rw [wrap_i1 i (by have := HQL.out; omega)], by simp, ⟨by have := HI.out; omega⟩, HA3, ⟨by rw [List.getElem?_append_left (by rw [HVL.out]; omega)]; exact HV.out⟩, HMn, HQn, HBn⟩
       case aGrow =>
        intro hcap v' w13 hown hgrow
        have hbA := below_alloc (Below.refl w12.heap.size w12) (.cells #[.slice An nx.length cn] 27)
        have hb13 := below_step HBc.out hbA
        have HMn := Aside0.mk ((HMc.out.below hbA).blk (hgrow.block _ (HMc.out.below hbA).lt (by simp)))
        have HBn := Aside0.mk (pw_below_grown hb13 none (below_size hb13) hgrow (fun k_ hk_ => by cases hk_))
        obtain ⟨g3, cap3, rfl, hqn⟩ := (HQc.out.below hbA).grow (below_size hb13) (HMc.out.below hbA).lt HCn.out (HKn.out.keep (fun b hl _ _ => hbA.block b hl)) (by rw [q_size]; exact hown) hgrow
        have HQn : Aside0 (Qu w w13 w.heap.size g3 0 cap3 (q :: (Qi ++ [nx])) (vs2 ++ [.slice An nx.length cn])) := ⟨hqn⟩
        have HVL := Aside0.mk (show vs2.length = Qi.length + 1 from HQc.out.len)
        clear hbA hb13 HMc HQc HBc HKn hcap hown hgrow hqn
        go_wp2
        go_roundg (gk - 1)
        case measure => have := HI.out; omega
        case rel => exact ⟨i + 1, _, Qi ++ [nx], g3, 0, cap3, _, by rw [wrap_i1 i (by have := HQL.out; omega)], by simp, ⟨by have := HI.out; omega⟩, HA3, ⟨by rw [List.getElem?_append_left (by rw [HVL.out]; omega)]; exact HV.out⟩, HMn, HQn, HBn⟩
      ·have H3 := HA2'.out
       rw [hsome, if_pos rfl] at H3
       have HA3 := Aside0.mk H3
       have hhas : Go.Maps.has (mpD C2) (kLit s2) = true := (lkC_has s2 C2).trans hsome
       clear H3 HA2' hsome
       go_wp2_with (first | ((with_reducible refine gate_callee (f := 19) rfl ?_); refine goesL_ _ rfl rfl Tryz.func19 (by kernel_rfl) rfl #[.slice An nx.length cn] rfl (by (try simp only [List.map_toArray, List.map_cons, List.map_nil]); first | done | rfl) ?_; (refine (impl_diagonalsText.calls k _ _ nx s2 _ HKn.out.c HCn.out HS2.out HTr.out).mono ?_); rintro e w11 ⟨rfl, hb⟩; refine ⟨_, rfl, ?_⟩; have m_ := HMc.out.below hb; have q_ := HQc.out.below hb; have b_ := below_step HBc.out hb; have k_ := HKn.out.keep (fun b hl _ _ => hb.block b hl); have t_ := HTr.out.below hb; clear HMc HQc HBc HKn HTr hb; have HMc := Aside0.mk m_; have HQc := Aside0.mk q_; have HBc := Aside0.mk b_; have HKn := Aside0.mk k_; have HTr := Aside0.mk t_; clear m_ q_ b_ k_ t_) | (refine wpList_lookup_own_ok_int _ rfl _ _ 41 rfl 9 3 .i64 mp_law Tryz.underlying41 Tryz.underlying3 (mp_zero _) w.heap.size _ _ rfl HMc.out _ _ rfl (mp_key (by have := HL.out.1; unfold maxLen; omega)) ?_; intro c2 _ _))
       go_roundg (gk - 1)
       case measure => have := HI.out; omega
       case rel => exact ⟨i + 1, C2, Qi, g2, off2, cap2, vs2, by rw [wrap_i1 i (by have := HQL.out; omega)], rfl, ⟨by have := HI.out; omega⟩, HA3, HV, HMc, HQc, HBc⟩

/-- Nought as often as is wanted for place x. -/
def growc (out : List Int) (x : Int) : List Int := out ++ List.replicate (x + 1 - (out.length : Int)).toNat 0
theorem growc_more {out : List Int} {x : Int} (h : (out.length : Int) ≤ x) : growc (out ++ [0]) x = growc out x := by
 unfold growc
 rw [List.append_assoc]
 congr 1
 rw [List.length_append, List.length_singleton, show (x + 1 - (out.length : Int)).toNat = (x + 1 - ((out.length + 1 : Nat) : Int)).toNat + 1 by omega, List.replicate_succ]
 rfl
theorem growc_same {out : List Int} {x : Int} (h : ¬ (out.length : Int) ≤ x) : growc out x = out := by
 unfold growc
 rw [show (x + 1 - (out.length : Int)).toNat = 0 by omega, List.replicate_zero, List.append_nil]
/-- How many there are of each distance. -/
def cbIn (k : Nat) (C : List (ByteArray × Int)) : List (List S38) → List Int → Option (List Int)
 | [], out => some out
 | a :: r, out => (impl_diagonalsText.f k a).bind fun s => if s.size ≤ 1000000 then (if (0 ≤ (lkC C s).getD 0 ∧ (lkC C s).getD 0 ≤ 1000) ∧ out.length ≤ 100000 then cbIn k C r ((growc out ((lkC C s).getD 0)).set ((lkC C s).getD 0).toNat (wrap64 (rd (growc out ((lkC C s).getD 0)) ((lkC C s).getD 0) + 1))) else none) else none
theorem cbIn_mono (k : Nat) (C : List (ByteArray × Int)) : ∀ (L : List (List S38)) (out : List Int), LeO (cbIn k C L out) (cbIn (k + 1) C L out)
 | [], _ => LeO.refl _
 | a :: r, out => by
  unfold cbIn
  exact LeO.bind (impl_diagonalsText.mono _ _) (fun s => LeO.ite (LeO.ite (cbIn_mono k C r _) (LeO.refl _)) (LeO.refl _))
def impl_CountByFlips.f (k : Nat) (a0 : Int) (l1 : List S38) : Option (List Int × Bool) := (impl_isNear.f k a0 l1).bind fun b => if b = true then (dstF k a0 l1).bind fun C => (impl_allTriangulations.f k a0).bind fun L => if L.length ≤ 1000000 then (cbIn k C L []).bind fun r => some (r, true) else none else some ([], false)
theorem impl_CountByFlips.mono : ∀ a0 a1 k, LeO (impl_CountByFlips.f k a0 a1) (impl_CountByFlips.f (k + 1) a0 a1) := by
 intro a0 a1 k
 unfold impl_CountByFlips.f
 exact LeO.bind (impl_isNear.mono _ _ _) (fun b => LeO.ite (LeO.bind (dstF_mono k a0 a1) (fun C => LeO.bind (impl_allTriangulations.mono _ _) (fun L => LeO.ite (LeO.bind (cbIn_mono k C L _) (fun r => LeO.refl _)) (LeO.refl _)))) (LeO.refl _))
theorem cb_keep {w w1 : World} {B : Nat} {C : List (ByteArray × Int)} {v : Value} (h : Mp w B C) (hg : w.grownBy w1 v.ownBlock) (hv : ∀ k, v.ownBlock = some k → k ≠ B) : Mp w1 B C := h.blk (hg.block B h.lt (fun he => hv B he.symm rfl))
set_option maxHeartbeats 8000000 in
set_option maxRecDepth 100000 in
theorem impl_CountByFlips.calls (k : Nat) (a0 : Int) (A1 : Option Addr) (c1 : Nat) (l1 : List S38) (r1 : List Int) (r2 : Bool) (w : World) (hr1 : Kd.C k38 w A1 l1.length l1) (hc1 : l1.length ≤ c1) (h : impl_CountByFlips.f k a0 l1 = some (r1, r2)) (htab : TabOk w) :
  Calls Tryz.prog 7 #[.int .i64 a0, .slice A1 l1.length c1] w fun e w' => ∃ v0_ : Value, e = .returned (.tuple #[v0_, .bool r2]) ∧ Kd.R (Kd.int .i64) 3 w' w.heap.size (fun _ => True) v0_ r1 ∧ Below w.heap.size w w' := by
 have HR1 := Aside0.mk hr1
 have HC1 := Aside0.mk hc1
 have HTAB := Aside0.mk htab
 clear hr1 hc1 htab
 unfold impl_CountByFlips.f at h
 obtain ⟨b, hb0, h⟩ := Option.bind_eq_some_iff.mp h
 have HB0 := Aside0.mk hb0
 clear hb0
 cases b with
 | false =>
  rw [if_neg (by simp)] at h
  injection h with h
  injection h with h1 h2
  subst h1 h2
  go_enter Tryz.func7, Tryz.ntmps7
  go_wp2_with (first | ((with_reducible refine gate_callee (f := 16) rfl ?_); refine goesL_ _ rfl rfl Tryz.func16 (by kernel_rfl) rfl #[.int .i64 a0, .slice A1 l1.length c1] rfl (by (try simp only [List.map_toArray, List.map_cons, List.map_nil]); first | done | rfl) ?_; (refine (impl_isNear.calls k a0 A1 c1 l1 false _ HR1.out HC1.out HB0.out).mono ?_); rintro e w3 ⟨rfl, hb⟩; refine ⟨_, rfl, ?_⟩; have HB3 := Aside0.mk hb; clear hb))
  go_ret2
  exact ⟨_, rfl, Kd.R_nil _ _ _ _ _, HB3.out⟩
 | true =>
  rw [if_pos rfl] at h
  obtain ⟨C, hC, h⟩ := Option.bind_eq_some_iff.mp h
  obtain ⟨L, hL, h⟩ := Option.bind_eq_some_iff.mp h
  by_cases hlen : L.length ≤ 1000000
  case neg => rw [if_neg hlen] at h; cases h
  rw [if_pos hlen] at h
  obtain ⟨r, hr, h⟩ := Option.bind_eq_some_iff.mp h
  injection h with h
  injection h with h1 h2
  subst h1 h2
  have HCC := Aside0.mk hC
  have HLL := Aside0.mk hL
  have HLN := Aside0.mk hlen
  have H' := Aside0.mk hr
  clear hC hL hlen hr
  go_enter Tryz.func7, Tryz.ntmps7
  go_wp2_with (first
   | ((with_reducible refine gate_callee (f := 16) rfl ?_); refine goesL_ _ rfl rfl Tryz.func16 (by kernel_rfl) rfl #[.int .i64 a0, .slice A1 l1.length c1] rfl (by (try simp only [List.map_toArray, List.map_cons, List.map_nil]); first | done | rfl) ?_; (refine (impl_isNear.calls k a0 A1 c1 l1 true _ HR1.out HC1.out HB0.out).mono ?_); rintro e w3 ⟨rfl, hb⟩; refine ⟨_, rfl, ?_⟩; have HB3 := Aside0.mk hb; clear hb)
   | ((with_reducible refine gate_callee (f := 17) rfl ?_); refine goesL_ _ rfl rfl Tryz.func17 (by kernel_rfl) rfl #[.int .i64 a0, .slice A1 l1.length c1] rfl (by (try simp only [List.map_toArray, List.map_cons, List.map_nil]); first | done | rfl) ?_; (refine (distances_calls k a0 A1 c1 l1 C _ (Kd.C_below HR1.out HB3.out) HC1.out (HTAB.out.below HB3.out) HCC.out).mono ?_); rintro e w4 ⟨B, rfl, hM, hB, hb⟩; refine ⟨_, rfl, ?_⟩; have HB4 := Aside0.mk (below_step HB3.out hb); have HM4 := Aside0.mk hM; clear hb hM hB)
   | ((with_reducible refine gate_dst (N := 18) rfl ?_); refine Kd.R_lit (Kd.int .i64) _ 3 ?hg (N := 18) ?hd (xs := ([] : List Int)) (inner := []) (ok := fun _ => True) (okp := fun _ => True) ?hr ?hp (fun _ hk => hk) trivial (Below.refl _ _) (Nat.le_refl _) (by simp) ?_; (case hd => rfl); (case hg => rfl); (case hr => first | (go_simp; done) | (go_simp; rfl)); (case hp => exact (Reps.none _ _)); intro v18 w5 ho hb hg_ hnew_; clear hg_ hnew_; have HO5 := Aside0.mk (Kd.R_lower (Kd.R_mono (Kd.R_bound ho) (ok' := fun q => q ≠ B) (fun q hq => by have := HM4.out.lt; have := hq.2.1; omega)) (below_size HB4.out)); have HB5 := Aside0.mk (below_step HB4.out hb); have HM5 := Aside0.mk (HM4.out.below hb); clear ho hb HB4 HM4)
   | ((with_reducible refine gate_callee (f := 18) rfl ?_); refine goesL_ _ rfl rfl Tryz.func18 (by kernel_rfl) rfl #[.int .i64 a0] rfl (by (try simp only [List.map_toArray, List.map_cons, List.map_nil]); first | done | rfl) ?_; (refine (impl_allTriangulations.calls k a0 L _ HLL.out).mono ?_); rintro e w6 ⟨vL, rfl, hS, hb⟩; obtain ⟨AL, cL, rfl⟩ := Kd.S_slice hS; refine ⟨_, rfl, ?_⟩; have HO6 := Aside0.mk (Kd.R_below HO5.out hb); have HM6 := Aside0.mk (HM5.out.below hb); have HS6 := Aside0.mk (Kd.S_lower hS (below_size HB5.out)); have HB6 := Aside0.mk (below_step HB5.out hb); clear hS hb HO5 HM5 HB5))
  go_loopg [7, 22] L.length (fun kq v7 v22 w' => ∃ (i : Nat) (out : List Int), v22 = .int .i64 (i : Int) ∧ Aside0 (i + kq = L.length) ∧ Aside0 (cbIn k C (L.drop i) out = some r) ∧ Aside0 (Kd.R (Kd.int .i64) 3 w' w.heap.size (fun q => q ≠ B) v7 out) ∧ Aside0 (Mp w' B C) ∧ Aside0 (Kd.S (Kd.slice 38 k38) 27 w' w.heap.size (fun _ => True) (.slice AL L.length cL) L) ∧ Aside0 (Below w.heap.size w w'))
  case atStart => exact ⟨0, [], rfl, ⟨Nat.zero_add _⟩, by rw [List.drop_zero]; exact H', HO6, HM6, HS6, HB6⟩
  case round =>
   clear H' HO6 HM6 HS6 HB6
   obtain ⟨i, out, rfl, HI, HA, HO, HM, HS, HB⟩ := hrel
   by_cases hi : i < L.length
   case neg =>
    have hlt : decide ((i : Int) < (L.length : Int)) = false := decide_eq_false (by omega)
    have H2 := HA.out
    rw [List.drop_of_length_le (by omega)] at H2
    simp only [cbIn] at H2
    injection H2 with H2
    subst H2
    go_wp2
    go_ret2
    exact ⟨_, rfl, Kd.R_mono HO.out (fun _ _ => trivial), HB.out⟩
   case pos =>
    have hlt : decide ((i : Int) < (L.length : Int)) = true := decide_eq_true (by omega)
    have hp : (0 ≤ (i : Int)) = True := eq_true (by omega)
    have hq : ((i : Int) < (L.length : Int)) = True := eq_true (by omega)
    obtain ⟨g, cap, e, _, _⟩ := Kd.S_form HS.out (by omega)
    injection e with e _ e'
    subst e e'
    obtain ⟨cs, _, hM0, hcell⟩ := Kd.S_get HS.out [] (i : Int) (by omega) (by omega)
    obtain ⟨v, rfl, hR⟩ := hM0
    have hx := hcell 0 v rfl
    rw [Addr.add_lit, Int.toNat_natCast, show 0 + (i * (Kd.slice 38 k38).sz + 0) = i from by show 0 + (i * 1 + 0) = i; omega] at hx
    obtain ⟨a, ha⟩ : ∃ a, a = L.getD i [] := ⟨_, rfl⟩
    rw [Int.toNat_natCast, ← ha] at hR
    have hdrop : L.drop i = a :: L.drop (i + 1) := by
     rw [List.drop_eq_getElem_cons hi, ha, List.getD_eq_getElem?_getD, List.getElem?_eq_getElem hi]
     rfl
    obtain ⟨Av, cv, rfl⟩ := Kd.R_slice hR
    have H2 := HA.out
    rw [hdrop] at H2
    simp only [cbIn] at H2
    obtain ⟨(s : ByteArray), hs, H2⟩ := Option.bind_eq_some_iff.mp H2
    by_cases hsz : s.size ≤ 1000000
    case neg => rw [if_neg hsz] at H2; cases H2
    rw [if_pos hsz] at H2
    have HRa := Aside0.mk (Kd.R_mono hR (fun _ _ => trivial) : Kd.R k38 38 wr w.heap.size (fun _ => True) (.slice Av a.length cv) a)
    have HS0 := Aside0.mk hs
    have HSZ := Aside0.mk hsz
    have HTr := Aside0.mk (HTAB.out.below HB.out)
    obtain ⟨x, hxe⟩ : ∃ x, x = (lkC C s).getD 0 := ⟨_, rfl⟩
    rw [← hxe] at H2
    have HFV := Aside0.mk hxe
    by_cases hlim : (0 ≤ x ∧ x ≤ 1000) ∧ out.length ≤ 100000
    case neg => rw [if_neg hlim] at H2; cases H2
    rw [if_pos hlim] at H2
    have HL := Aside0.mk hlim
    have HA3 := Aside0.mk H2
    clear hR hs hsz H2 HA ha hdrop hcell hlim hxe
    cases gk with
    | zero => exact absurd HI.out (by omega)
    | succ kq =>
    go_wp2_with (first
     | ((with_reducible refine gate_callee (f := 19) rfl ?_); refine goesL_ _ rfl rfl Tryz.func19 (by kernel_rfl) rfl #[.slice Av a.length cv] rfl (by (try simp only [List.map_toArray, List.map_cons, List.map_nil]); first | done | rfl) ?_; (refine (impl_diagonalsText.calls k _ _ a s _ (Kd.R_reads' HRa.out).2.2 (Kd.R_reads' HRa.out).2.1 HS0.out HTr.out).mono ?_); rintro e w8 ⟨rfl, hb⟩; refine ⟨_, rfl, ?_⟩; have HO8 := Aside0.mk (Kd.R_below HO.out hb); have HM8 := Aside0.mk (HM.out.below hb); have HS8 := Aside0.mk (Kd.S_below HS.out hb); have HB8 := Aside0.mk (below_step HB.out hb); clear hb HO HRa HM HS HB HTr hx)
     | (refine wpList_lookup_own_int _ rfl _ _ 41 rfl 9 3 .i64 mp_law Tryz.underlying41 Tryz.underlying3 (mp_zero _) B _ _ rfl HM8.out _ _ rfl (mp_key (by have := HSZ.out; unfold maxLen; omega)) ?_; intro far hfar _; obtain rfl : far = x := (mpD_val hfar).trans HFV.out.symm; clear hfar))
    go_loopg [7] (far + 1 - (out.length : Int)).toNat (fun kq2 v7 w' => ∃ (o2 : List Int), Aside0 ((far + 1 - (o2.length : Int)).toNat ≤ kq2) ∧ Aside0 (o2.length ≤ 1000000) ∧ Aside0 (growc o2 far = growc out far) ∧ Aside0 (Kd.R (Kd.int .i64) 3 w' w.heap.size (fun q => q ≠ B) v7 o2) ∧ Aside0 (Mp w' B C) ∧ Aside0 (Kd.S (Kd.slice 38 k38) 27 w' w.heap.size (fun _ => True) (.slice (some ⟨g, 0, none⟩) L.length cL) L) ∧ Aside0 (Below w.heap.size w w'))
    case atStart => exact ⟨out, ⟨Nat.le_refl _⟩, ⟨by have := HL.out; omega⟩, ⟨rfl⟩, HO8, HM8, HS8, HB8⟩
    case round =>
     clear HO8 HM8 HS8 HB8
     obtain ⟨o2, HK, HN, HG, HO, HM, HS, HB⟩ := hrel
     by_cases hlen : (o2.length : Int) ≤ far
     case pos =>
      have hdec : decide ((o2.length : Int) ≤ far) = true := decide_eq_true hlen
      cases gk with
      | zero => exact absurd HK.out (by omega)
      | succ k2 =>
       obtain ⟨A8, c8, e8⟩ := Kd.R_slice HO.out
       subst e8
       go_wp2_with (first | ((with_reducible refine gate_builtin (b := .append) (xs := #[.tmp 34, .tmp 35]) rfl ?_); at_builtin; refine Kd.R_append (Kd.int .i64) (w0 := w) w.heap.size rfl (.tmp 34) (.tmp 35) 24 3 (.int .i64 0) 8 rfl Tryz.underlying24 info3 rfl (by decide) (by omega) (.slice A8 o2.length c8) o2 0 [.int .i64 0] (fun q => q ≠ B) (fun _ => False) rfl rfl ?aP (fun _ hk => hk.elim) ?aF ?aO ?aB ?aS ?aL ?_; (case aP => exact rfl); (case aB => exact HB.out); (case aF => exact fun q hq => by have := HM.out.lt; omega); (case aO => exact HO.out); (case aS => exact below_size HB.out); (case aL => have := HN.out; omega); intro v1 w9 ho hb hg hat; have HO9 := Aside0.mk ho; have HB9 := Aside0.mk hb; have HM9 := Aside0.mk (cb_keep HM.out hg HO.out.1); have HS9 := Aside0.mk (Kd.S_over' HS.out (Kd.R_typed HO.out) (by decide) hg); clear ho hb hg hat))
       go_roundg k2
       case measure => omega
       case rel => exact ⟨o2 ++ [0], ⟨by rw [List.length_append, List.length_singleton]; have := HK.out; omega⟩, ⟨by rw [List.length_append, List.length_singleton]; have := HL.out; omega⟩, ⟨(growc_more hlen).trans HG.out⟩, HO9, HM9, HS9, HB9⟩
     case neg =>
      have hdec : decide ((o2.length : Int) ≤ far) = false := decide_eq_false hlen
      have he : o2 = growc out far := (growc_same hlen).symm.trans HG.out
      have hA4 := HA3.out
      rw [← he] at hA4
      have HA4 := Aside0.mk hA4
      clear hA4 HA3
      have hx0 := HL.out.1.1
      obtain ⟨g8, c8, e8, hgb, hgl, cl8, HG8⟩ := Kd.R_form HO.out (by omega)
      subst e8
      have GB8 := Aside0.mk hgb
      obtain ⟨hx8, hf8⟩ := Kd.R_celln 0 HO.out far hx0 (by omega)
      have HP := Aside0.mk (Kd.R_putg HO.out far (wrap64 (rd o2 far + 1)))
      have px : (0 ≤ far) = True := eq_true hx0
      have qx : (far < (o2.length : Int)) = True := eq_true (by omega)
      clear hgb hgl HG8 he HG
      go_wp2_with (first | ((with_reducible refine gate_store (t := 3) (p := 42) rfl ?_); refine store_event (t := 3) (p := 42) (v := ?vo) (w1 := (wr.setCell ⟨g8, far.toNat, none⟩ (.int .i64 (wrap64 (rd o2 far + 1))))) ?hg ?ho ?hn ?hr ?_; (case ho => rfl); (case hg => rfl); (case hn => rfl); (case hr => first | (go_simp; done) | (go_simp; rfl)); intro w14 hw; have HO9 : Aside0 (Kd.R (Kd.int .i64) 3 w14 w.heap.size (fun q => q ≠ B) (.slice (some ⟨g8, 0, none⟩) o2.length c8) (o2.set far.toNat (wrap64 (rd o2 far + 1)))) := ⟨by rw [hw]; exact HP.out.1⟩; have hg : wr.grownBy w14 (.slice (some ⟨g8, 0, none⟩) o2.length c8 : Value).ownBlock := (by rw [hw]; exact HP.out.2); have HM9 := Aside0.mk (cb_keep HM.out hg HO.out.1); have HS9 := Aside0.mk (Kd.S_over' HS.out (Kd.R_typed HO.out) (by decide) hg); have HB9 : Aside0 (Below w.heap.size w w14) := ⟨by rw [hw]; exact below_set HB.out GB8.out⟩; clear hg hw))
      go_roundg kq
      case measure => omega
      case rel => exact ⟨i + 1, _, by rw [wrap_i1 i (by have := HLN.out; omega)], ⟨by have := HI.out; omega⟩, HA4, HO9, HM9, HS9, HB9⟩

/-! ### laws_eqIntS: function 8 -/
def laws_eqIntS.l0 : Nat → List Int → List Int → Int → Option (Bool)
 | 0, _, _, _ => none
 | k + 1, x0, x1, x5 => if x5 < (x0.length : Int) then (if 0 ≤ x5 then (if x5 < (x1.length : Int) then (if (rd x0 x5) = (rd x1 x5) then (laws_eqIntS.l0 k x0 x1 (wrap64 (x5 + 1))) else (some false)) else (none)) else (none)) else (some true)
def laws_eqIntS.f (k : Nat) (l0 : List Int) (l1 : List Int) : Option (Bool) := if (l0.length : Int) = (l1.length : Int) then (laws_eqIntS.l0 k l0 l1 0) else (some false)
theorem laws_eqIntS.mono_l : ∀ k, (∀ y0 y1 y2, LeO (laws_eqIntS.l0 k y0 y1 y2) (laws_eqIntS.l0 (k + 1) y0 y1 y2))
 | 0 => fun _ _ _ r h => by simp [laws_eqIntS.l0] at h
 | k + 1 => by
  have ih0 := laws_eqIntS.mono_l k
  ·intro y0 y1 y2
   unfold laws_eqIntS.l0
   repeat' first
   | (with_reducible exact ih0 _ _ _)
   | (with_reducible exact LeO.refl _)
   | (with_reducible exact LeO.none _)
   | (with_reducible refine LeO.ite ?_ ?_)
   | (with_reducible refine LeO.bind ?_ (fun _ => ?_))
   | exact ih0 _ _ _
   | exact LeO.none _
   | refine LeO.ite ?_ ?_
   | refine LeO.bind ?_ (fun _ => ?_)
theorem laws_eqIntS.mono : ∀ a0 a1 k, LeO (laws_eqIntS.f k a0 a1) (laws_eqIntS.f (k + 1) a0 a1) := by
 intro a0 a1 k
 have ih0 := laws_eqIntS.mono_l k
 unfold laws_eqIntS.f
 repeat' first
   | (with_reducible exact ih0 _ _ _)
   | (with_reducible exact LeO.refl _)
   | (with_reducible exact LeO.none _)
   | (with_reducible refine LeO.ite ?_ ?_)
   | (with_reducible refine LeO.bind ?_ (fun _ => ?_))
   | exact ih0 _ _ _
   | exact LeO.none _
   | refine LeO.ite ?_ ?_
   | refine LeO.bind ?_ (fun _ => ?_)
set_option maxHeartbeats 8000000 in
set_option maxRecDepth 100000 in
theorem laws_eqIntS.calls (k : Nat) (A0 : Option Addr) (c0 : Nat) (l0 : List Int) (A1 : Option Addr) (c1 : Nat) (l1 : List Int) (r : Bool) (w : World) (hr0 : Kd.C (Kd.int .i64) w A0 l0.length l0) (hc0 : l0.length ≤ c0) (hr1 : Kd.C (Kd.int .i64) w A1 l1.length l1) (hc1 : l1.length ≤ c1) (h : laws_eqIntS.f k l0 l1 = some r) :
  Calls Tryz.prog 8 #[.slice A0 l0.length c0, .slice A1 l1.length c1] w fun e w' => e = .returned (.bool r) ∧ Drawn0 w w' := by
 have HR0 := Aside0.mk hr0
 have HC0 := Aside0.mk hc0
 clear hr0 hc0
 have HR1 := Aside0.mk hr1
 have HC1 := Aside0.mk hc1
 clear hr1 hc1
 have H : (if (l0.length : Int) = (l1.length : Int) then (laws_eqIntS.l0 k l0 l1 0) else (some false)) = some r := h
 clear h
 by_cases c3 : (l0.length : Int) = (l1.length : Int)
 ·rw [if_pos c3] at H
  have c3b0 : ((l0.length : Int) == (l1.length : Int)) = true := beq_iff_eq.mpr c3
  have c3b1 : ((l0.length : Int) != (l1.length : Int)) = false := bne_eq_false_iff_eq.mpr c3
  have c3b2 : (l0.length == l1.length) = true := by first | simpa using c3 | (simp at c3 ⊢; omega)
  clear c3
  have H' := Aside0.mk H
  clear H
  go_enter Tryz.func8, Tryz.ntmps8
  go_wp2
  repeat (go_quiet (fail); try go_wp2)
  go_loopg [5] k (fun kq v5 w' => ∃ (x5_1 : Int), v5 = .int .i64 x5_1 ∧ Aside0 (laws_eqIntS.l0 kq l0 l1 x5_1 = some r) ∧ Aside0 (kq ≤ k) ∧ Drawn0 w w')
  case atStart => exact ⟨(0), rsd_, H', ⟨Nat.le_refl _⟩, by repeat (first | exact Drawn0.refl _ | apply Drawn0.step)⟩
  case round =>
   clear H'
   try clear c1
   try clear p2
   try clear c3
   try clear c3b0
   try clear c3b1
   try clear c3b2
   obtain ⟨x5_1, rfl, HA, HK1, ⟨m1, rfl⟩⟩ := hrel
   cases gk with
   | zero => exact absurd HA.out (by simp [laws_eqIntS.l0])
   | succ k1 =>
    have H := HA.out
    clear HA
    simp only [laws_eqIntS.l0] at H
    by_cases c4 : x5_1 < (l0.length : Int)
    ·rw [if_pos c4] at H
     have c4b0 : decide (x5_1 < (l0.length : Int)) = true := decide_eq_true c4
     clear c4
     by_cases c5 : 0 ≤ x5_1
     case neg=>rw [if_neg c5] at H;exact absurd H (by simp)
     rw [if_pos c5] at H
     have c5b0 : decide (0 ≤ x5_1) = true := decide_eq_true c5
     clear c5
     by_cases c6 : x5_1 < (l1.length : Int)
     case neg=>rw [if_neg c6] at H;exact absurd H (by simp)
     rw [if_pos c6] at H
     have c6b0 : decide (x5_1 < (l1.length : Int)) = true := decide_eq_true c6
     clear c6
     by_cases c7 : (rd l0 x5_1) = (rd l1 x5_1)
     ·rw [if_pos c7] at H
      have c7b0 : ((rd l0 x5_1) == (rd l1 x5_1)) = true := beq_iff_eq.mpr c7
      have c7b1 : ((rd l0 x5_1) != (rd l1 x5_1)) = false := bne_eq_false_iff_eq.mpr c7
      clear c7
      have H' := Aside0.mk H
      clear H
      have p357 : 0 ≤ (x5_1 : Int) := odt_
      have q357 : x5_1 < (l0.length : Int) := odt_
      obtain ⟨ad357, e357, hx357_0⟩ := Kd.at_int HR0.out x5_1 p357 q357
      cases e357
      replace p357 := eq_true p357
      replace q357 := eq_true q357
      have p358 : 0 ≤ (x5_1 : Int) := odt_
      have q358 : x5_1 < (l1.length : Int) := odt_
      obtain ⟨ad358, e358, hx358_0⟩ := Kd.at_int HR1.out x5_1 p358 q358
      cases e358
      replace p358 := eq_true p358
      replace q358 := eq_true q358
      go_wp2
      repeat (go_quiet (fail); try go_wp2)
      go_roundg k1
      case measure => have := HK1.out; omega
      case rel => exact ⟨(wrap64 (x5_1 + 1)), rsd_, H', ⟨by have := HK1.out; omega⟩, by repeat (first | exact Drawn0.refl _ | apply Drawn0.step)⟩
     ·rw [if_neg c7] at H
      have c7b0 : ((rd l0 x5_1) == (rd l1 x5_1)) = false := beq_eq_false_iff_ne.mpr c7
      have c7b1 : ((rd l0 x5_1) != (rd l1 x5_1)) = true := bne_iff_ne.mpr c7
      obtain rfl := Option.some.inj H
      have p357 : 0 ≤ (x5_1 : Int) := odt_
      have q357 : x5_1 < (l0.length : Int) := odt_
      obtain ⟨ad357, e357, hx357_0⟩ := Kd.at_int HR0.out x5_1 p357 q357
      cases e357
      replace p357 := eq_true p357
      replace q357 := eq_true q357
      have p358 : 0 ≤ (x5_1 : Int) := odt_
      have q358 : x5_1 < (l1.length : Int) := odt_
      obtain ⟨ad358, e358, hx358_0⟩ := Kd.at_int HR1.out x5_1 p358 q358
      cases e358
      replace p358 := eq_true p358
      replace q358 := eq_true q358
      go_wp2
      repeat (go_quiet (fail); try go_wp2)
      go_ret
      exact dr_
    ·rw [if_neg c4] at H
     have c4b0 : decide (x5_1 < (l0.length : Int)) = false := decide_eq_false c4
     clear c4
     obtain rfl := Option.some.inj H
     go_wp2
     repeat (go_quiet (fail); try go_wp2)
     go_ret
     exact dr_
 ·rw [if_neg c3] at H
  have c3b0 : ((l0.length : Int) == (l1.length : Int)) = false := beq_eq_false_iff_ne.mpr c3
  have c3b1 : ((l0.length : Int) != (l1.length : Int)) = true := bne_iff_ne.mpr c3
  have c3b2 : (l0.length == l1.length) = false := by first | simpa using c3 | (simp at c3 ⊢; omega)
  obtain rfl := Option.some.inj H
  go_enter Tryz.func8, Tryz.ntmps8
  go_wp2
  repeat (go_quiet (fail); try go_wp2)
  go_ret
  exact dr_

end Go.Proofs.YtgblginphicacaaGreatDoor.PFnExactCountByFlips
