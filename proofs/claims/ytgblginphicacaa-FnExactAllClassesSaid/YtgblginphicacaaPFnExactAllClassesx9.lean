-- WRITTEN BY A PROGRAM OF THIS WORK (wip/tools/ppatch.py) for this claim.
import Derived.Test.YtgblginphicacaaPFnExactAllClassesx0
import Derived.Test.YtgblginphicacaaPFnExactAllClassesx2
import Derived.Test.YtgblginphicacaaPFnExactAllClassesx4
import Derived.Test.YtgblginphicacaaPFnExactAllClassesx6
import Derived.Test.YtgblginphicacaaPFnExactAllClassesx7
import Derived.Test.YtgblginphicacaaPFnExactAllClassesx8
namespace Go.Proofs.Ytgblginphicacaa.PFnExactAllClasses
open Go.RowKit Go.Proofs.YtgblginphicacaaW.PrintWords Go.Proofs.YtgblginphicacaaW.PrintLast Go.Proofs.YtgblginphicacaaW.PrintMore
attribute [local go_sem] max2_int min2_int max_two min_two max_three min_three max_four min_four   -- for this text's walks alone
set_option linter.unusedVariables false
set_option linter.unusedSimpArgs false

/-! ### spec_caClasses: function 21 -/
theorem R_spare {α : Type} {d : Kd α} {e base n cap g m o : Nat} {ok : Nat → Prop} {W : World} {xs : List α} {cs : List Value} (h : d.R e W base ok (.slice (some ⟨g, 0, none⟩) n cap) xs) (hm : m ≤ n) (ho : m * d.sz ≤ o) (hfit : o + cs.length ≤ cap * d.sz) :
  d.R e (W.setCells g o cs) base ok (.slice (some ⟨g, 0, none⟩) m cap) (xs.take m) := by
 have hn : n = xs.length := (Kd.R_reads' h).1
 have h' := Kd.R_take h (m := m) (by omega)
 obtain ⟨hok, inner, hown, hr⟩ := h'
 have hin : inner.length = m * d.sz := by rw [hr.1, List.length_take, Nat.min_eq_left (by omega)]
 obtain ⟨ho1, ho2⟩ := hown
 rcases ho2 with ⟨hv, _⟩ | ⟨g', cap', cur, hv, hb, hh, hnc', hcm, hcs, ht⟩
 ·cases hv
 injection hv with ha hml hc
 injection ha with ha
 injection ha with hg
 subst hg; subst hc
 obtain ⟨cur', h3, h4, h5⟩ := setCells_row cs o W cur hh (by omega)
 have hfar : ∀ k, k ≠ g → (W.setCells g o cs).heap[k]? = W.heap[k]? := fun k hk => setCells_far cs _ k hk
 refine ⟨hok, inner, ⟨ho1, .inr ⟨g, cap, cur', by rw [← hml], hb, h3, hnc', hcm, by rw [h4, hcs], ?_⟩⟩, hr.1, fun q p hq => ?_⟩
 ·rw [← ht, h5]
  apply List.ext_getElem?
  intro q
  rw [List.getElem?_take, List.getElem?_take, seg_get cur.toList cs o (by have : cur.toList.length = cur.size := Array.length_toList; omega) q]
  rw [← hml]
  by_cases hq : q < m * d.sz
  ·rw [if_pos hq, if_pos hq, if_pos (by omega)]
  ·rw [if_neg hq, if_neg hq]
 ·exact d.M_move (fun k hk => hfar k (fun he => hk.2 (by rw [he]; simp [Value.ownBlock]))) (hr.2 q p hq)
theorem run_clear_one {P : Program} (w : World) (t e ty : TypeId) (z : Value) (ht : P.underlying t = some (.slice e)) (hv : ∀ w, (zeroValue e).run P w = .ok z w) (hz : z.cells = #[z]) (h0 : z.oneCell' = true) (b o n c : Nat) (hn : 0 < n)
  (hc : ∀ j, j < n → (w.cell? ⟨b, o + j, none⟩).isSome = true) (hf : ∀ j, j < n → w.frozen? ⟨b, o + j, none⟩ = false) :
  ∃ cs : List Value, cs.length = n ∧ (Builtin.clear_ #[t] ty #[.slice (some ⟨b, o, none⟩) n c]).run P w = .ok (.tuple #[]) (w.setCells b o cs) := by
 have hl : (Builtin.zeroCells z.cells n).toList.length = n := by
  rw [hz]
  simp [Builtin.zeroCells]
 have hone : ∀ v ∈ (Builtin.zeroCells z.cells n).toList, v.oneCell' = true := by
  rw [hz]
  intro v hv'
  simp only [Builtin.zeroCells, Array.toList_map, List.mem_map] at hv'
  obtain ⟨i, _, rfl⟩ := hv'
  have : i % 1 = 0 := by omega
  simp [this, h0]
 refine ⟨(Builtin.zeroCells z.cells n).toList, hl, ?_⟩
 have hst := run_storeCells_cells (P := P) b o (Builtin.zeroCells z.cells n).toList 0 w (by rw [hl]; simpa using hc) (by rw [hl]; simpa using hf) hone
 simp only [Nat.add_zero] at hst
 obtain ⟨m, rfl⟩ : ∃ m, n = m + 1 := ⟨n - 1, by omega⟩
 simp [Builtin.clear_, run_underlying ht, hv, hst]
theorem take_succ_filter {α : Type} (q : α → Bool) (l : List α) (j : Nat) (h : j < l.length) : (l.take (j + 1)).filter q = (l.take j).filter q ++ if q l[j] = true then [l[j]] else [] := by
 rw [List.take_succ_eq_append_getElem h, List.filter_append, List.filter_cons]
 rfl
theorem idxOf_found {α : Type} (p : α → Bool) : ∀ (l : List α) (i : Nat), (idxOf p l i = -1 ∧ ∀ x ∈ l, p x = false) ∨ (∃ (A : List α) (x : α) (B : List α), l = A ++ x :: B ∧ p x = true ∧ (∀ y ∈ A, p y = false) ∧ idxOf p l i = ((i + A.length : Nat) : Int))
 | [], _ => .inl ⟨rfl, fun x hx => by cases hx⟩
 | y :: l, i => by
  unfold idxOf
  by_cases h : p y = true
  ·rw [if_pos h]
   refine .inr ⟨[], y, l, rfl, h, ?_, by simp⟩
   intro z hz
   cases hz
  ·rw [if_neg h]
   rcases idxOf_found p l (i + 1) with ⟨h1, h2⟩ | ⟨A, x, B, h1, h2, h3, h4⟩
   ·refine .inl ⟨h1, fun x hx => ?_⟩
    rcases List.mem_cons.1 hx with e | e
    ·rw [e]
     simpa using h
    ·exact h2 x e
   ·refine .inr ⟨y :: A, x, B, by rw [h1]; rfl, h2, fun z hz => ?_, ?_⟩
    ·rcases List.mem_cons.1 hz with e | e
     ·rw [e]
      simpa using h
     ·exact h3 z e
    ·rw [h4, List.length_cons]
     congr 1
     omega
theorem below_setCells {B : Nat} {a : World} {g : Nat} (hg : B ≤ g) : ∀ (vs : List Value) (o : Nat) (w : World), Below B a w → Below B a (w.setCells g o vs)
 | [], _, _, h => h
 | v :: r, o, w, h => by
  rw [World.setCells]
  exact below_setCells hg r (o + 1) _ (h.setCell (show B ≤ (⟨g, o, none⟩ : Addr).block from hg) v)

theorem zeroL : ∀ w, (zeroValue 41).run Try.prog w = .ok (.slice none 0 0) w := fun w => by go_simp
theorem idxOf_map {α β : Type} (p : β → Bool) (f : α → β) : ∀ (l : List α) (i : Nat), idxOf p (l.map f) i = idxOf (fun x => p (f x)) l i
 | [], _ => rfl
 | x :: l, i => by
  rw [List.map_cons]
  unfold idxOf
  rw [idxOf_map p f l (i + 1)]
theorem C_untag {f : Nat → Nat} {α : Type} {d : Kd α} {w : World} {A : Option Addr} {zs : List (α × Nat)} (h : Kd.C (Kd.tag f d) w A zs.length zs) : Kd.C d w A (zs.map Prod.fst).length (zs.map Prod.fst) := by
 refine ⟨rfl, by rw [List.length_map]; exact h.2.1, fun hn => ?_⟩
 rw [List.length_map] at hn
 obtain ⟨ad, e, hc⟩ := h.2.2 hn
 refine ⟨ad, e, fun j p hj => ?_⟩
 rw [List.getElem?_map] at hj
 obtain ⟨z, hz, rfl⟩ := Option.map_eq_some_iff.1 hj
 exact hc j z hz
theorem elemL {w : World} {A : Option Addr} {l : List (List S52)} (h : Kd.C (Kd.slice 52 k52) w A l.length l) (i : Nat) (hi : i < l.length) :
  ∃ ad Ax cx, A = some ad ∧ w.cell? (ad.add i) = some (.slice Ax (l.getD i []).length cx) ∧ (l.getD i []).length ≤ cx ∧ Kd.C k52 w Ax (l.getD i []).length (l.getD i []) := by
 obtain ⟨ad, c, e, _, hK, hc⟩ := Kd.C_get h ([] : List S52) (i : Int) (by omega) (by omega)
 rw [Int.toNat_natCast] at hK hc
 obtain ⟨Ax, cx, rfl, h1, h2⟩ := hK
 have h3 := hc 0 _ rfl
 rw [show (Kd.slice 52 k52).sz = 1 from rfl, Nat.mul_one, Nat.add_zero] at h3
 exact ⟨ad, Ax, cx, e, h3, h1, h2⟩
set_option maxHeartbeats 2000000 in
theorem IndexFuncL (p : List S52 → Bool) (g : Nat) (lb : Array Value) (eg : ∀ args w, (callFunc g args).run Try.prog w = .ok (.enter g args) w) (A0 : Option Addr) (c0 : Nat) (l0 : List (List S52)) (w : World) (hr0 : Kd.C (Kd.slice 52 k52) w A0 l0.length l0)
  (hp : ∀ (W : World) (A : Option Addr) (c : Nat) (x : List S52), x ∈ l0 → Below w.heap.size w W → Kd.C k52 W A x.length x → x.length ≤ c → Calls Try.prog g (#[.slice A x.length c] ++ lb) W fun e w' => e = .returned (.bool (p x)) ∧ Below W.heap.size W w') :
  Calls Try.prog 63 #[.slice A0 l0.length c0, .func (.func g) #[] lb] w fun e w' => e = .returned (.int .i64 (idxOf p l0 0)) ∧ Below w.heap.size w w' := by
 have hbig : l0.length ≤ 9223372036854775807 := hr0.2.1
 have HR0 := Aside0.mk hr0
 have HP := Aside0.mk hp
 clear hr0 hp
 go_enter Try.func63, Try.ntmps63
 go_wp2
 go_loopg [5, 8] l0.length (fun gg _ s8 wr => ∃ i : Nat, i ≤ l0.length ∧ l0.length - i ≤ gg ∧ s8 = .int .i64 i ∧ Aside0 (idxOf p l0 0 = idxOf p (l0.drop i) i) ∧ Aside0 (Below w.heap.size w wr))
 case atStart => exact ⟨0, Nat.zero_le _, by omega, rfl, ⟨by rw [List.drop_zero]⟩, ⟨Below.refl _ w⟩⟩
 case round =>
  obtain ⟨i, hi, hg, rfl, HX, HB⟩ := hrel
  by_cases hlt : i < l0.length
  ·have p0 : (0 : Int) ≤ (i : Int) := by omega
   have q0 : (i : Int) < (l0.length : Int) := by omega
   obtain ⟨ad, Ax, cx, rfl, h0, hcx, hCx⟩ := elemL (Kd.C_below HR0.out HB.out) i hlt
   have hstep := idxOf_step p ([] : List S52) l0 i hlt
   have hmem : l0.getD i [] ∈ l0 := by
    rw [List.getD_eq_getElem?_getD, List.getElem?_eq_getElem hlt]
    exact List.getElem_mem _
   have hcall := HP.out wr Ax cx (l0.getD i []) hmem HB.out hCx hcx
   clear hmem hCx hcx
   generalize l0.getD i [] = x at h0 hstep hcall
   cases hq : p x with
   | true =>
    rw [hq] at hcall hstep
    have HC := Lib.hid hcall
    have HS := Lib.hid hstep
    clear hcall hstep hq
    go_wp2_with (go_at_fn g; refine HC.out.mono ?_; rintro e w' ⟨rfl, hb'⟩)
    go_ret
    exact ⟨by rw [HX.out, HS.out]; rfl, HB.out.trans (hb'.mono (below_size HB.out))⟩
   | false =>
    rw [hq] at hcall hstep
    have HC := Lib.hid hcall
    have HS := Lib.hid hstep
    clear hcall hstep hq
    go_wp2_with (go_at_fn g; refine HC.out.mono ?_; rintro e w' ⟨rfl, hb'⟩)
    go_roundg (l0.length - (i + 1))
    case measure => omega
    case rel => exact ⟨i + 1, by omega, by omega, by go_num, ⟨by rw [HX.out, HS.out]; rfl⟩, ⟨HB.out.trans (hb'.mono (below_size HB.out))⟩⟩
  ·have hltz : ¬ (i : Int) < (l0.length : Int) := by omega
   go_wp2
   go_ret
   exact ⟨by rw [HX.out, List.drop_of_length_le (by omega)]; rfl, HB.out⟩
set_option maxHeartbeats 4000000 in
set_option maxRecDepth 100000 in
theorem DeleteFuncL (f : Nat → Nat) (p : List S52 → Bool) (g : Nat) (lb : Array Value) (eg : ∀ args w, (callFunc g args).run Try.prog w = .ok (.enter g args) w) (u : Value) (l0 : List (List S52 × Nat)) (base : Nat) (w0 w : World) (ok : Nat → Prop) (hR : Kd.R (Kd.tag f (Kd.slice 52 k52)) 41 w base ok u l0) (hB : Below base w0 w) (hbs : base ≤ w.heap.size)
  (hp : ∀ (W : World) (A : Option Addr) (c : Nat) (x : List S52), x ∈ l0.map Prod.fst → Below base w0 W → w.heap.size ≤ W.heap.size → Kd.C k52 W A x.length x → x.length ≤ c → Calls Try.prog g (#[.slice A x.length c] ++ lb) W fun e w' => e = .returned (.bool (p x)) ∧ Below W.heap.size W w') :
  Calls Try.prog 44 #[u, .func (.func g) #[] lb] w fun e w' => ∃ v0_ : Value, e = .returned v0_ ∧ Kd.R (Kd.tag f (Kd.slice 52 k52)) 41 w' base ok v0_ (l0.filter fun z => !p z.1) ∧ Below base w0 w' := by
 obtain ⟨A0, c0, rfl, hc0, hr0⟩ := Kd.R_reads hR
 have hi := IndexFuncL p g lb eg A0 c0 (l0.map Prod.fst) w (C_untag hr0) (fun W A c x hx hW hC hc => hp W A c x hx (hB.trans (hW.mono hbs)) hW.size hC hc)
 rw [idxOf_map, List.length_map] at hi
 rcases idxOf_found (fun z : List S52 × Nat => p z.1) l0 0 with ⟨h1, h2⟩ | ⟨A, x, B, h1, h2, h3, h4⟩
 ·rw [h1] at hi
  have hf : l0.filter (fun z => !p z.1) = l0 := by
   rw [List.filter_eq_self]
   intro y hy
   rw [h2 y hy]
   rfl
  rw [hf]
  have HI := Lib.hid hi
  have HR := Aside0.mk hR
  have HB := Aside0.mk hB
  clear hi hR hB hp hr0 hf h1 h2
  go_enter Try.func44, Try.ntmps44
  go_wp2_with (go_at_call 63; refine HI.out.mono ?_; rintro e w1 ⟨rfl, hb⟩)
  go_ret
  exact ⟨_, rfl, Kd.R_below HR.out hb, HB.out.trans (hb.mono hbs)⟩
 ·rw [h4, Nat.zero_add] at hi
  have hlen : l0.length = A.length + (B.length + 1) := by rw [h1]; simp
  obtain ⟨bg, cap, e1, hbg, hlt, _⟩ := Kd.R_form hR (by omega)
  injection e1 with ea _ ec
  subst ea; subst ec
  have hne : ((A.length : Int) == -1) = false := beq_eq_false_iff_ne.2 (by omega)
  have hA : (l0.take (A.length + 1)).filter (fun z => !p z.1) = A := by
   have : l0.take (A.length + 1) = A ++ [x] := by
    rw [h1, List.take_append, List.take_of_length_le (by omega), Nat.add_sub_cancel_left]
    rfl
   rw [this, List.filter_append, List.filter_cons, h2]
   have h5 : A.filter (fun z => !p z.1) = A := by
    rw [List.filter_eq_self]
    intro y hy
    rw [h3 y hy]
    rfl
   rw [h5]
   simp
  have HI := Lib.hid hi
  have HR := Aside0.mk hR
  have HB := Aside0.mk hB
  have HP := Aside0.mk hp
  have HA := Aside0.mk hA
  have H1 := Aside0.mk h1
  have hAl : A.length < l0.length := by omega
  have hbig : l0.length ≤ 9223372036854775807 := hr0.2.1
  clear hi hR hB hp hr0 hA h4 h1 hlen
  go_enter Try.func44, Try.ntmps44
  go_wp2_with (go_at_call 63; refine HI.out.mono ?_; rintro e w1 ⟨rfl, hb⟩; have hs1 := Aside0.mk (Below.size hb); have HR1 := Aside0.mk (Kd.R_below HR.out hb); have HB1 := Aside0.mk (Below.trans HB.out (hb.mono hbs)); clear hb)
  go_loopg [5, 6, 7] l0.length (fun gg s5 s6 _ wr => ∃ (i j : Nat) (xs : List (List S52 × Nat)), s5 = .int .i64 i ∧ s6 = .int .i64 j ∧ i < j ∧ j ≤ l0.length ∧ l0.length - j ≤ gg ∧ xs.length = l0.length ∧ Aside0 (xs.take i = (l0.take j).filter fun z => !p z.1) ∧ Aside0 (xs.drop j = l0.drop j) ∧ Aside0 (Kd.R (Kd.tag f (Kd.slice 52 k52)) 41 wr base ok (.slice (some ⟨bg, 0, none⟩) l0.length c0) xs) ∧ Aside0 (Below base w0 wr) ∧ Aside0 (w.heap.size ≤ wr.heap.size))
  case atStart =>
   refine ⟨A.length, A.length + 1, l0, rfl, ?_, Nat.lt_succ_self _, hAl, ?_, rfl, ⟨?_⟩, ⟨rfl⟩, HR1, HB1, hs1⟩
   ·rfl
   ·omega
   ·rw [HA.out, H1.out]
    simp
  case round =>
   obtain ⟨i, j, xs, rfl, rfl, hij, hjl, hgg, hxl, HT, HD, HRx, HBx, HS⟩ := hrel
   by_cases hlt : j < l0.length
   ·have hltz : (j : Int) < (l0.length : Int) := by omega
    have p0 : (0 : Int) ≤ (j : Int) := by omega
    have p1 : (0 : Int) ≤ (i : Int) := by omega
    have q1 : (i : Int) < (l0.length : Int) := by omega
    obtain ⟨cj, hcl, hM, hcc, hfr⟩ := Kd.R_elem HRx.out (([], 0) : List S52 × Nat) (j : Int) p0 hltz
    have erd : xs.getD (j : Int).toNat ([], 0) = l0[j] := by
     have hd := HD.out
     rw [Int.toNat_natCast]
     have h2 : (xs.drop j)[0]? = (l0.drop j)[0]? := by rw [hd]
     rw [List.getElem?_drop, List.getElem?_drop, Nat.add_zero, List.getElem?_eq_getElem hlt] at h2
     rw [List.getD_eq_getElem?_getD, h2]
     rfl
    rw [erd] at hM
    have hmem : l0[j].1 ∈ l0.map Prod.fst := List.mem_map_of_mem (List.getElem_mem _)
    generalize hx : l0[j] = y at hM hmem
    have HX := Aside0.mk hx
    have HM := Aside0.mk hM
    obtain ⟨vy, hvy, hRy⟩ := hM
    subst hvy
    obtain ⟨Ay, cy, rfl, hcy, hCy⟩ := Kd.R_reads hRy
    have h0 : wr.cell? ⟨bg, j, none⟩ = some (.slice Ay y.1.length cy) := by
     have h3 := hcc 0 _ rfl
     rw [show (Kd.tag f (Kd.slice 52 k52)).sz = 1 from rfl, Nat.mul_one, Nat.add_zero, Int.toNat_natCast] at h3
     exact h3
    have hcall := HP.out wr Ay cy y.1 hmem HBx.out HS.out hCy hcy
    clear hx erd hcl hcc hfr hRy hCy hmem
    cases hq : p y.1 with
    | false =>
     rw [hq] at hcall
     have HC := Aside0.mk hcall
     clear hcall
     go_wp2_with (go_at_fn g; refine HC.out.mono ?_; rintro e w' ⟨rfl, hb'⟩; have HRw := Aside0.mk (Kd.R_below HRx.out hb'); have HM2 := Aside0.mk (Kd.M_below HM.out hb'); obtain ⟨ci, hcl2, hMi, hcc2, hfr2⟩ := Kd.R_elem HRw.out (([], 0) : List S52 × Nat) (i : Int) p1 q1; obtain ⟨vi, hvi, _⟩ := hMi; subst hvi; have g0 : w'.cell? ⟨bg, i, none⟩ = some vi := (by have h3 := hcc2 0 _ rfl; rw [show (Kd.tag f (Kd.slice 52 k52)).sz = 1 from rfl, Nat.mul_one, Nat.add_zero, Int.toNat_natCast] at h3; exact h3); have f0 : w'.frozen? ⟨bg, i, none⟩ = false := (by have h3 := hfr2 0; rw [show (Kd.tag f (Kd.slice 52 k52)).sz = 1 from rfl, Nat.mul_one, Nat.add_zero, Int.toNat_natCast] at h3; exact h3); have HC2 := Aside0.mk hcc2; have HL2 := Aside0.mk hcl2; have HB2 := Aside0.mk hb'; clear hb' hcc2 hcl2 hfr2 HC)
     go_roundg (l0.length - (j + 1))
     case measure => omega
     case rel =>
      have hix : i < xs.length := by omega
      have hseg := Kd.R_seg HRw.out (i : Int) p1 q1 (j := 0) (seg := [.slice Ay y.1.length cy]) (okp := fun k => ok k ∧ k ≠ bg) (x' := y) HL2.out HC2.out (Nat.le_refl 1) (by
       have hl : [vi].length = 1 := rfl
       rw [List.take_zero, List.nil_append, List.drop_of_length_le (by rw [hl]; exact Nat.le_refl 1), List.append_nil]
       exact HM2.out) (fun _ h => h)
      refine ⟨i + 1, j + 1, xs.set i y, rfl, rfl, by omega, by omega, Nat.le_refl _, by rw [List.length_set]; exact hxl, ⟨?_⟩, ⟨?_⟩, ⟨?_⟩, ⟨?_⟩, ⟨?_⟩⟩
      ·rw [List.take_succ_eq_append_getElem (by rw [List.length_set]; exact hix), List.getElem_set_self, List.take_set_of_le (Nat.le_refl i), HT.out, take_succ_filter _ _ _ hlt, HX.out, hq]
       rfl
      ·rw [List.drop_set_of_lt (by omega)]
       have h5 := congrArg (List.drop 1) HD.out
       rwa [List.drop_drop, List.drop_drop] at h5
      ·have h6 := hseg.1
       rw [show (Kd.tag f (Kd.slice 52 k52)).sz = 1 from rfl, Nat.mul_one, Nat.add_zero, Int.toNat_natCast] at h6
       exact h6
      ·exact (HBx.out.trans (HB2.out.mono (Nat.le_trans hbs HS.out))).setCell (show base ≤ (⟨bg, i, none⟩ : Addr).block from hbg) _
      ·have hsz : ∀ (W : World) (a : Addr) (v : Value), (W.setCell a v).heap.size = W.heap.size := fun W a v => by simp [World.setCell]
       rw [hsz]
       exact Nat.le_trans HS.out HB2.out.size
    | true =>
     rw [hq] at hcall
     have HC := Aside0.mk hcall
     clear hcall
     go_wp2_with (go_at_fn g; refine HC.out.mono ?_; rintro e w' ⟨rfl, hb'⟩; have HRw := Aside0.mk (Kd.R_below HRx.out hb'); have HB2 := Aside0.mk hb'; clear hb')
     go_roundg (l0.length - (j + 1))
     case measure => omega
     case rel =>
      refine ⟨i, j + 1, xs, rfl, rfl, by omega, by omega, Nat.le_refl _, hxl, ⟨?_⟩, ⟨?_⟩, HRw, ⟨?_⟩, ⟨?_⟩⟩
      ·rw [HT.out, take_succ_filter _ _ _ hlt, HX.out, hq]
       simp
      ·have h5 := congrArg (List.drop 1) HD.out
       rwa [List.drop_drop, List.drop_drop] at h5
      ·exact HBx.out.trans (HB2.out.mono (Nat.le_trans hbs HS.out))
      ·exact Nat.le_trans HS.out HB2.out.size
   ·obtain rfl : j = l0.length := by omega
    have hltz : ¬ (l0.length : Int) < (l0.length : Int) := by omega
    have hform := HRx.out
    obtain ⟨_, inner, hown, _⟩ := hform
    obtain ⟨_, ho2⟩ := hown
    rcases ho2 with ⟨hv, _⟩ | ⟨g', cap', cur, hv, _, hh, hnc', hcm, hcs, _⟩
    ·cases hv
    injection hv with ha hnn hcc
    injection ha with ha
    injection ha with hgg2
    subst hgg2; subst hcc
    have hcs2 : cur.size = c0 * 1 := hcs
    have hnc2 : l0.length ≤ c0 := by rw [hxl] at hnc'; exact hnc'
    obtain ⟨cs, hcl, hrun⟩ : ∃ cs : List Value, cs.length = l0.length - i ∧ ∀ ty, (Builtin.clear_ #[22] ty #[.slice (some ⟨bg, i, none⟩) (l0.length - i) (c0 - i)]).run Try.prog wr = .ok (.tuple #[]) (wr.setCells bg i cs) := by
     have hcell : ∀ q, q < l0.length - i → (wr.cell? ⟨bg, i + q, none⟩).isSome = true := fun q hq => by
      rw [cell_of_row wr bg _ cur 41 (0, 0) hh, Array.getElem?_eq_getElem (by omega)]
      rfl
     have hfro : ∀ q, q < l0.length - i → wr.frozen? ⟨bg, i + q, none⟩ = false := fun q _ => blk_frozen hh _
     obtain ⟨cs, h1, h2⟩ := run_clear_one (P := Try.prog) wr 22 41 0 (.slice none 0 0) Try.underlying22 zeroL rfl rfl bg i (l0.length - i) (c0 - i) (by omega) hcell hfro
     exact ⟨cs, h1, fun ty => h2⟩
    have HCL := Aside0.mk hcl
    have HXL := Aside0.mk hxl
    have HHH := Aside0.mk hh
    have HCS := Aside0.mk hcs2
    clear hcl hxl hh hcs hcs2 hnc' hnn
    go_wp2
    go_ret
    refine ⟨.slice (some ⟨bg, 0, none⟩) i c0, rfl, ?_, below_setCells hbg cs _ _ HBx.out⟩
    have h5 := R_spare (m := i) (o := i) (cs := cs) HRx.out (by omega) (by show i * 1 ≤ i; omega) (by
     rw [HCL.out]
     show i + (l0.length - i) ≤ c0 * 1
     omega)
    rw [HT.out, List.take_of_length_le (Nat.le_refl _)] at h5
    exact h5
/-- What is left of rows that lie apart lies apart. -/
theorem S_of_tag {f : Nat → Nat} {α : Type} {d : Kd α} {e base : Nat} {w : World} {ok : Nat → Prop} {v : Value} {zs : List (α × Nat)} (h : Kd.R (Kd.tag f d) e w base ok v zs) (hn : (zs.map Prod.snd).Nodup) : Kd.S d e w base ok v (zs.map Prod.fst) := by
 obtain ⟨h0, inner, ho, hr⟩ := h
 refine ⟨fun k => (zs.map Prod.snd).idxOf (f k), h0, inner, by rw [List.length_zipIdx, List.length_map]; exact ho, by have := hr.1; rw [List.length_zipIdx, List.length_map]; exact this, fun j q hj => ?_⟩
 rw [List.getElem?_zipIdx, List.getElem?_map, Nat.zero_add] at hj
 cases hz : zs[j]? with
 | none => rw [hz] at hj; cases hj
 | some z =>
  rw [hz] at hj
  simp only [Option.map_some, Option.some.injEq] at hj
  subst hj
  refine d.M_mono (fun k hk => ⟨hk.1, ?_⟩) (hr.2 j z hz)
  have hjl := (List.getElem?_eq_some_iff.1 hz).1
  have hg : (zs.map Prod.snd)[j]'(by rw [List.length_map]; exact hjl) = z.2 := by
   rw [List.getElem_map]
   rw [List.getElem?_eq_getElem hjl] at hz
   injection hz with hz
   rw [hz]
  show (zs.map Prod.snd).idxOf (f k) = j
  rw [hk.2, ← hg]
  exact hn.idxOf_getElem j _
theorem filter_zip {α : Type} (q : α → Bool) (l : List α) (i : Nat) : ((l.zipIdx i).filter fun z => q z.1).map Prod.fst = l.filter q := by
 induction l generalizing i with
 | nil => rfl
 | cons x l ih =>
  rw [List.zipIdx_cons, List.filter_cons, List.filter_cons]
  cases q x
  ·simp only [Bool.false_eq_true, if_false]
   exact ih (i + 1)
  ·simp only [if_true, List.map_cons]
   rw [ih (i + 1)]
theorem zip_nodup {α : Type} (q : α → Bool) (l : List α) (i : Nat) : (((l.zipIdx i).filter fun z => q z.1).map Prod.snd).Nodup := by
 have h : ((l.zipIdx i).map Prod.snd).Nodup := by
  rw [List.zipIdx_map_snd]
  exact List.nodup_range' ..
 exact h.sublist (List.Sublist.map _ List.filter_sublist)

/-- The literal in least: does 'of' give the list itself? -/
theorem leastLit_calls (k : Nat) (n : Int) (x y : List S52) (b : Bool) (g : Nat) (lb : Array Value) (eg : ∀ args w, (callFunc g args).run Try.prog w = .ok (.enter g args) w) (w : World) (go gn : Nat) (A : Option Addr) (c : Nat) (hgo : w.heap[go]? = some (.cells #[.func (.func g) #[] lb] 43 (0, 0))) (hgn : w.heap[gn]? = some (.cells #[.int .i64 n] 3 (0, 0))) (hC : Kd.C k52 w A x.length x) (hc : x.length ≤ c)
  (hof : Calls Try.prog g (#[.int .i64 n, .slice A x.length c] ++ lb) w fun e w' => ∃ v : Value, e = .returned v ∧ Kd.R k52 52 w' w.heap.size (fun _ => True) v y ∧ Below w.heap.size w w') (he : impl_Diagonal_47.f k y x = some b) :
  Calls Try.prog 46 (#[.slice A x.length c] ++ #[.pointer (some ⟨go, 0, none⟩), .pointer (some ⟨gn, 0, none⟩)]) w fun e w' => e = .returned (.bool (!b)) ∧ Below w.heap.size w w' := by
 have h0 : w.cell? ⟨go, 0, none⟩ = some (.func (.func g) #[] lb) := (blk_cell hgo 0).trans rfl
 have h1 : w.cell? ⟨gn, 0, none⟩ = some (.int .i64 n) := (blk_cell hgn 0).trans rfl
 have HF := Aside0.mk hof
 have HE := Aside0.mk he
 have HC := Aside0.mk hC
 have HL := Aside0.mk hc
 clear hof he hC hc hgo hgn
 show Calls Try.prog 46 #[.slice A x.length c, .pointer (some ⟨go, 0, none⟩), .pointer (some ⟨gn, 0, none⟩)] w _
 go_enter Try.func46, Try.ntmps46
 go_wp2_with (first
  | (go_at_fn g; refine HF.out.mono ?_; rintro e w8 ⟨v8, rfl, ho8, hb8⟩; obtain ⟨A8, c8, rfl⟩ := Kd.R_slice ho8; have HO8 := Aside0.mk ho8; have HB8 := Aside0.mk hb8; clear ho8 hb8)
  | (go_at_call 47; refine (impl_Diagonal_47.calls k A8 c8 y A c x b _ (Kd.R_reads' HO8.out).2.2 (Kd.R_reads' HO8.out).2.1 (Kd.C_below HC.out HB8.out) HL.out HE.out).mono ?_; rintro e w10 ⟨rfl, hb10⟩; have HB10 := Aside0.mk (show Below w8.heap.size w8 w10 from by first | exact hb10 | exact Drawn0.below hb10); clear hb10))
 go_ret
 exact ⟨rfl, below_then HB8.out (below_size HB8.out) HB10.out⟩
set_option maxHeartbeats 4000000 in
set_option maxRecDepth 100000 in
theorem least_calls (k : Nat) (n : Int) (ts : List (List S52)) (keep : List S52 → Option Bool) (g : Nat) (lb : Array Value) (w : World) (ht : impl_allTriangulations.f k n = some ts) (hall : ∀ x ∈ ts, (keep x).isSome = true)
  (hlit : ∀ (W : World) (go gn : Nat) (A : Option Addr) (c : Nat) (x : List S52) (b : Bool), x ∈ ts → keep x = some b → W.heap[go]? = some (.cells #[.func (.func g) #[] lb] 43 (0, 0)) → W.heap[gn]? = some (.cells #[.int .i64 n] 3 (0, 0)) → Below w.heap.size w W → Kd.C k52 W A x.length x → x.length ≤ c →
   Calls Try.prog 46 (#[.slice A x.length c] ++ #[.pointer (some ⟨go, 0, none⟩), .pointer (some ⟨gn, 0, none⟩)]) W fun e w' => e = .returned (.bool (!b)) ∧ Below W.heap.size W w') :
  Calls Try.prog 24 #[.int .i64 n, .func (.func g) #[] lb] w fun e w' => ∃ v0_ : Value, e = .returned v0_ ∧ Kd.S (Kd.slice 52 k52) 41 w' w.heap.size (fun _ => True) v0_ (ts.filter fun x => (keep x).getD false) ∧ Below w.heap.size w w' := by
 have hkey : ∀ (gn go : Nat) (v : Value) (w3 w4 : World), Below w.heap.size w w3 → w.heap.size ≤ w3.heap.size → w3.heap[gn]? = some (.cells #[.int .i64 n] 3 (0, 0)) → w3.heap[go]? = some (.cells #[.func (.func g) #[] lb] 43 (0, 0)) → Kd.S (Kd.slice 52 k52) 41 w4 w3.heap.size (fun _ => True) v ts → Below w3.heap.size w3 w4 →
   Calls Try.prog 44 #[v, .func (.func 46) #[] #[.pointer (some ⟨go, 0, none⟩), .pointer (some ⟨gn, 0, none⟩)]] w4 fun e w' => ∃ v0_ : Value, e = .returned v0_ ∧ Kd.S (Kd.slice 52 k52) 41 w' w.heap.size (fun _ => True) v0_ (ts.filter fun x => (keep x).getD false) ∧ Below w.heap.size w w' := by
  intro gn go v w3 w4 h1 h2 h3 h4 h5 h6
  obtain ⟨f, hR⟩ := h5
  have hd := DeleteFuncL f (fun x => !(keep x).getD false) 46 #[.pointer (some ⟨go, 0, none⟩), .pointer (some ⟨gn, 0, none⟩)] (enters_of Try.func46 (by kernel_rfl) rfl) v ts.zipIdx w3.heap.size w3 w4 (fun _ => True) hR h6 (below_size h6) (fun W A c x hx hW _ hC hc => by
   have hx2 : x ∈ ts := by rw [List.zipIdx_map_fst] at hx; exact hx
   obtain ⟨b, hb⟩ := Option.isSome_iff_exists.1 (hall x hx2)
   have h7 := hlit W go gn A c x b hx2 hb ((hW.block _ (blk_lt h4)).trans h4) ((hW.block _ (blk_lt h3)).trans h3) (h1.trans (hW.mono h2)) hC hc
   rw [show (keep x).getD false = b by rw [hb]; rfl]
   exact h7)
  refine hd.mono ?_
  rintro e w' ⟨v0, rfl, hr, hb⟩
  refine ⟨v0, rfl, ?_, h1.trans (hb.mono h2)⟩
  have hs := S_of_tag hr (zip_nodup (fun x => !!(keep x).getD false) ts 0)
  rw [filter_zip (fun x => !!(keep x).getD false)] at hs
  have e9 : (ts.filter fun x => !!(keep x).getD false) = ts.filter fun x => (keep x).getD false := by simp
  rw [e9] at hs
  exact Kd.S_lower hs h2
 have HK := Aside0.mk hkey
 have HT := Aside0.mk ht
 clear hkey ht hall hlit
 go_enter Try.func24, Try.ntmps24
 go_wp2_with (first
  | ((with_reducible refine gate_dst (N := 2) rfl ?_); refine box_event ?hg (N := 2) ?hd (cs := #[.int .i64 n]) (t := 3) ?hr ?_; (case hd => rfl); (case hg => rfl); (case hr => first | (go_simp; done) | (go_simp; rfl)); intro gn hg w1 hbox hb; have HN1 := Aside0.mk hbox; have HB1 := Aside0.mk hb; clear hbox hb hg)
  | ((with_reducible refine gate_dst (N := 3) rfl ?_); refine box_event ?hg (N := 3) ?hd (cs := #[.func (.func g) #[] lb]) (t := 43) ?hr ?_; (case hd => rfl); (case hg => rfl); (case hr => first | (go_simp; done) | (go_simp; rfl)); intro go hg w2 hbox hb; have HO2 := Aside0.mk hbox; have HB2 := Aside0.mk (below_then HB1.out (below_size HB1.out) hb); have HN2 := Aside0.mk ((hb.block _ (blk_lt HN1.out)).trans HN1.out); have hc2 : w2.cell? ⟨gn, 0, none⟩ = some (.int .i64 n) := (blk_cell HN2.out 0).trans rfl; clear hbox hb hg)
  | (go_at_call 45; refine (impl_allTriangulations.calls k n ts _ HT.out).mono ?_; rintro e w4 ⟨v4, rfl, ho4, hb4⟩; have HO4 := Aside0.mk ho4; have HB4 := Aside0.mk hb4; clear ho4 hb4)
  | (go_at_call 44; refine (HK.out gn go v4 w2 w4 HB2.out (below_size HB2.out) HN2.out HO2.out HO4.out HB4.out).mono ?_; rintro e w8 ⟨v8, rfl, ho8, hb8⟩; have HO8 := Aside0.mk ho8; have HB8 := Aside0.mk hb8; clear ho8 hb8))
 go_ret
 exact ⟨_, rfl, HO8.out, HB8.out⟩
/-- What is kept, if 'keep' tells it of all. -/
def leastF (keep : List S52 → Option Bool) (ts : List (List S52)) : Option (List (List S52)) := if (ts.all fun x => (keep x).isSome) = true then some (ts.filter fun x => (keep x).getD false) else none
theorem leastF_mono {k1 k2 : List S52 → Option Bool} (hk : ∀ x, LeO (k1 x) (k2 x)) (ts : List (List S52)) : LeO (leastF k1 ts) (leastF k2 ts) := by
 intro r hr
 unfold leastF at hr ⊢
 by_cases h : (ts.all fun x => (k1 x).isSome) = true
 ·rw [if_pos h] at hr
  rw [List.all_eq_true] at h
  have hs : ∀ x ∈ ts, k2 x = k1 x := by
   intro x hx
   obtain ⟨b, hb⟩ := Option.isSome_iff_exists.1 (h x hx)
   rw [hb]
   exact hk x b hb
  have h2 : (ts.all fun x => (k2 x).isSome) = true := by
   rw [List.all_eq_true]
   intro x hx
   rw [hs x hx]
   exact h x hx
  rw [if_pos h2, ← hr]
  congr 1
  refine List.filter_congr ?_
  intro x hx
  rw [hs x hx]
 ·rw [if_neg h] at hr
  cases hr
theorem leastF_some {keep : List S52 → Option Bool} {ts r : List (List S52)} (h : leastF keep ts = some r) : (∀ x ∈ ts, (keep x).isSome = true) ∧ r = ts.filter fun x => (keep x).getD false := by
 unfold leastF at h
 by_cases ha : (ts.all fun x => (keep x).isSome) = true
 ·rw [if_pos ha] at h
  rw [List.all_eq_true] at ha
  exact ⟨ha, (Option.some.inj h).symm⟩
 ·rw [if_neg ha] at h
  cases h

/-- Is it the first one of its class? -/
def spec_caClasses.keep (k : Nat) (n : Int) (x : List S52) : Option Bool := (spec_caClass.f k n x).bind fun y => spec_poSame.f k y x
theorem spec_caClasses.keep_mono (k : Nat) (n : Int) (x : List S52) : LeO (spec_caClasses.keep k n x) (spec_caClasses.keep (k + 1) n x) := LeO.bind (spec_caClass.mono _ _ _) (fun _ => spec_poSame.mono _ _ _)
def spec_caClasses.f (k : Nat) (a0 : Int) : Option (List (List S52)) := (spec_poAll.f a0).bind fun ts => if ts.length ≤ 1048576 then leastF (spec_caClasses.keep k a0) ts else none
theorem spec_caClasses.mono : ∀ a0 k, LeO (spec_caClasses.f k a0) (spec_caClasses.f (k + 1) a0) := by
 intro a0 k
 unfold spec_caClasses.f
 exact LeO.bind (LeO.refl _) (fun _ => LeO.ite (leastF_mono (fun _ => spec_caClasses.keep_mono _ _ _) _) (LeO.refl _))
theorem cl_step {α : Type} (q : α → Bool) (l : List (α × Nat)) (i : Nat) (h : i < l.length) : (l.take (i + 1)).filter (fun z => q z.1) = (l.take i).filter (fun z => q z.1) ++ if q l[i].1 = true then [l[i]] else [] := by
 rw [List.take_succ_eq_append_getElem h, List.filter_append, List.filter_cons]
 rfl
theorem cl_info : (Try.prog.info? 41).map (fun i => (i.zero, i.size, i.bytes)) = some (some (.slice none 0 0), 1, 24) := by kernel_rfl
theorem cl_elem {f : Nat → Nat} {w W : World} {base ga i : Nat} {ok : Nat → Prop} {z : List S52 × Nat} {x : List S52} {v : Value} (h : ∃ c, c.length = (Kd.tag f (Kd.slice 52 k52)).sz ∧ (Kd.tag f (Kd.slice 52 k52)).M w base (fun k => ok k ∧ k ≠ ga) z c ∧ (∀ j u, c[j]? = some u → w.cell? ⟨ga, (i : Int).toNat * (Kd.tag f (Kd.slice 52 k52)).sz + j, none⟩ = some u) ∧ ∀ j, w.frozen? ⟨ga, (i : Int).toNat * (Kd.tag f (Kd.slice 52 k52)).sz + j, none⟩ = false) (hb : Below w.heap.size w W) (hx : w.cell? ⟨ga, i, none⟩ = some v) (_hz : z.1 = x) :
  (Kd.tag f (Kd.slice 52 k52)).M W base ok z [v] := by
 obtain ⟨c, hl, hM, hc, _⟩ := h
 obtain ⟨v', rfl, hR⟩ := hM
 have h1 := hc 0 v' rfl
 rw [show (Kd.tag f (Kd.slice 52 k52)).sz = 1 from rfl, Nat.mul_one, Nat.add_zero, Int.toNat_natCast, hx] at h1
 injection h1 with h1
 subst h1
 exact Kd.M_mono _ (fun k hk => hk.1) (Kd.M_below (show (Kd.tag f (Kd.slice 52 k52)).M w base (fun k => ok k ∧ k ≠ ga) z [v] from ⟨v, rfl, hR⟩) hb)
set_option maxHeartbeats 8000000 in
set_option maxRecDepth 100000 in
theorem spec_caClasses.calls (k : Nat) (a0 : Int) (r : List (List S52)) (w : World) (h : spec_caClasses.f k a0 = some r) :
  Calls Try.prog 21 #[.int .i64 a0] w fun e w' => ∃ v0_ : Value, e = .returned (v0_) ∧ Kd.S (Kd.slice 52 k52) 41 w' w.heap.size (fun _ => True) v0_ r ∧ Below w.heap.size w w' := by
 have H : ((spec_poAll.f a0).bind fun ts => if ts.length ≤ 1048576 then leastF (spec_caClasses.keep k a0) ts else none) = some r := h
 clear h
 obtain ⟨ts, ht, H⟩ := Option.bind_eq_some_iff.mp H
 by_cases hsm : ts.length ≤ 1048576
 ·rw [if_pos hsm] at H
  obtain ⟨hall, rfl⟩ := leastF_some H
  clear H
  have HT := Aside0.mk ht
  have HA := Aside0.mk hall
  have HB0 := Aside0.mk (Below.refl w.heap.size w)
  clear ht hall
  go_enter Try.func21, Try.ntmps21
  go_wp2_with (go_at_call 40; refine (spec_poAll.calls a0 ts _ HT.out).mono ?_; rintro e w7 ⟨v7, rfl, ho7, hb7⟩; obtain ⟨A7, c7, rfl⟩ := Kd.S_slice ho7; have HO7 := Aside0.mk ho7; have HB7 := Aside0.mk hb7; clear ho7 hb7)
  obtain ⟨f, hf⟩ := HO7.out
  have HO := Aside0.mk hf
  clear hf HO7 HB0
  go_loopg [3, 9] (ts.length + 1) (fun gg s3 s9 wr => ∃ (i : Nat) (zs : List (List S52 × Nat)), s9 = .int .i64 i ∧ i ≤ ts.length ∧ Aside0 (ts.length + 1 ≤ gg + i) ∧ Aside0 (zs = (ts.zipIdx.take i).filter fun z => (spec_caClasses.keep k a0 z.1).getD false) ∧ Aside0 (Kd.R (Kd.tag f (Kd.slice 52 k52)) 41 wr w.heap.size (fun k_ => some k_ ≠ s3.ownBlock) (.slice A7 ts.length c7) ts.zipIdx) ∧ Aside0 (Kd.R (Kd.tag f (Kd.slice 52 k52)) 41 wr w.heap.size (fun _ => True) s3 zs) ∧ Aside0 (Below w.heap.size w wr))
  case atStart => exact ⟨0, [], rfl, Nat.zero_le _, ⟨by omega⟩, ⟨rfl⟩, ⟨Kd.R_mono HO.out (fun _ _ => by simp [Value.ownBlock])⟩, ⟨Kd.R_nil _ _ _ _ _⟩, HB7⟩
  case round =>
   clear HO HB7
   obtain ⟨i, zs, rfl, hi, HG, HZ, HO, HR, HB⟩ := hrel
   by_cases hlt : i < ts.length
   ·have p0 : (0 : Int) ≤ (i : Int) := by omega
    have q0 : (i : Int) < (ts.length : Int) := by omega
    have hzl : ts.zipIdx.length = ts.length := List.length_zipIdx
    have hiz : i < ts.zipIdx.length := by omega
    have hz1 : (ts.zipIdx[i]).1 = ts[i] := by simp
    have hcu := C_untag (zs := ts.zipIdx) (A := A7) (w := wr) (Kd.R_reads' HO.out).2.2
    rw [List.zipIdx_map_fst] at hcu
    obtain ⟨ad, Ax, cx, rfl, h0, hcx, hCx⟩ := elemL hcu i hlt
    have hgd : ts.getD i [] = ts[i] := by rw [List.getD_eq_getElem?_getD, List.getElem?_eq_getElem hlt]; rfl
    rw [hgd] at h0 hcx hCx
    have hmem : ts[i] ∈ ts := List.getElem_mem _
    obtain ⟨b, hkb⟩ := Option.isSome_iff_exists.1 (HA.out _ hmem)
    obtain ⟨y, hy, he⟩ := Option.bind_eq_some_iff.mp hkb
    obtain ⟨ga, rfl⟩ := Kd.R_head HO.out
    have HE := Aside0.mk (Kd.R_elem HO.out (([], 0) : List S52 × Nat) (i : Int) p0 q0)
    have hza : ts.zipIdx.getD (i : Int).toNat ([], 0) = ts.zipIdx[i] := by rw [Int.toNat_natCast, List.getD_eq_getElem?_getD, List.getElem?_eq_getElem hiz]; rfl
    rw [hza] at HE
    have HZ2 := Aside0.mk (cl_step (fun x => (spec_caClasses.keep k a0 x).getD false) ts.zipIdx i hiz)
    rw [hz1, show (spec_caClasses.keep k a0 ts[i]).getD false = b by rw [hkb]; rfl] at HZ2
    have hx0 : wr.cell? ⟨ga, i, none⟩ = some (.slice Ax ts[i].length cx) := by have h_ := h0; rw [add_at, Nat.zero_add] at h_; exact h_
    clear h0 hcu hgd hza hkb hmem
    obtain ⟨x, hx⟩ : ∃ x, x = ts[i] := ⟨_, rfl⟩
    obtain ⟨z, hz⟩ : ∃ z, z = ts.zipIdx[i] := ⟨_, rfl⟩
    rw [← hx] at hx0 hcx hCx hy he
    rw [← hz] at HE HZ2
    have HY := Aside0.mk hy
    have HEQ := Aside0.mk he
    have HCX := Aside0.mk hCx
    have HLX := Aside0.mk hcx
    have HZL := Aside0.mk (show zs.length ≤ 1048576 by rw [HZ.out]; exact Nat.le_trans (List.length_filter_le ..) (by rw [List.length_take]; omega))
    have HZ1 := Aside0.mk (show z.1 = x by rw [hz, hx]; exact hz1)
    clear hy he hCx hcx hx hz hz1
    cases b with
    | false =>
     go_wp2_with (first
      | (go_at_call 42; refine (spec_caClass.calls k a0 Ax cx x y _ HCX.out HLX.out HY.out).mono ?_; rintro e w15 ⟨v15, rfl, ho15, hb15⟩; obtain ⟨A15, c15, rfl⟩ := Kd.R_slice ho15; have HO15 := Aside0.mk ho15; have HB15 := Aside0.mk hb15; clear ho15 hb15)
      | (go_at_call 41; refine (spec_poSame.calls k A15 c15 y Ax cx x false _ (Kd.R_reads' HO15.out).2.2 (Kd.R_reads' HO15.out).2.1 (Kd.C_below HCX.out HB15.out) HLX.out HEQ.out).mono ?_; rintro e w17 ⟨rfl, hb17⟩; have HB17 := Aside0.mk (below_then HB15.out (below_size HB15.out) (show Below w15.heap.size w15 w17 from by first | exact hb17 | exact Drawn0.below hb17)); clear hb17))
     go_roundg (ts.length - i)
     case measure => have := HG.out; omega
     case rel => exact ⟨i + 1, zs, by go_num, by omega, ⟨by omega⟩, ⟨by rw [HZ2.out, if_neg (by simp), List.append_nil]; exact HZ.out⟩, ⟨Kd.R_below HO.out HB17.out⟩, ⟨Kd.R_below HR.out HB17.out⟩, ⟨below_then HB.out (below_size HB.out) HB17.out⟩⟩
    | true =>
     go_wp2_with (first
      | (go_at_call 42; refine (spec_caClass.calls k a0 Ax cx x y _ HCX.out HLX.out HY.out).mono ?_; rintro e w15 ⟨v15, rfl, ho15, hb15⟩; obtain ⟨A15, c15, rfl⟩ := Kd.R_slice ho15; have HO15 := Aside0.mk ho15; have HB15 := Aside0.mk hb15; clear ho15 hb15)
      | (go_at_call 41; refine (spec_poSame.calls k A15 c15 y Ax cx x true _ (Kd.R_reads' HO15.out).2.2 (Kd.R_reads' HO15.out).2.1 (Kd.C_below HCX.out HB15.out) HLX.out HEQ.out).mono ?_; rintro e w17 ⟨rfl, hb17⟩; have HB17 := Aside0.mk (below_then HB15.out (below_size HB15.out) (show Below w15.heap.size w15 w17 from by first | exact hb17 | exact Drawn0.below hb17)); clear hb17)
      | ((with_reducible refine gate_builtin (b := .append) (xs := #[.tmp 18, .tmp 20]) rfl ?_); at_builtin; refine Kd.R_append (Kd.tag f (Kd.slice 52 k52)) (w0 := w) w.heap.size rfl (.tmp 18) (.tmp 20) 22 41 (.slice none 0 0) 24 rfl Try.underlying22 cl_info rfl Nat.one_pos (by omega) _ zs z [.slice Ax x.length cx] (fun _ => True) (fun k_ => some k_ ≠ u3.ownBlock) rfl rfl ?aP (fun _ hk => ⟨trivial, hk⟩) ?aF ?aO ?aB ?aS ?aL ?_; (case aP => exact cl_elem HE.out HB17.out hx0 HZ1.out); (case aB => exact below_then HB.out (below_size HB.out) HB17.out); (case aF => exact (fun _ _ => trivial)); (case aO => exact Kd.R_below HR.out HB17.out); (case aS => exact Nat.le_trans (below_size HB.out) (below_size HB17.out)); (case aL => have := HZL.out; omega); intro v21 w21 ho hb hg hat; have HO21 := Aside0.mk ho; have HB21 := Aside0.mk hb; have HS21 := Aside0.mk (Kd.R_after (ok := fun _ => True) (Kd.R_mono (Kd.R_below HO.out HB17.out) (fun _ hk => ⟨trivial, hk⟩)) hg hat); clear ho hb hg hat))
     go_roundg (ts.length - i)
     case measure => have := HG.out; omega
     case rel => exact ⟨i + 1, zs ++ [z], by go_num, by omega, ⟨by omega⟩, ⟨by rw [HZ2.out, if_pos trivial, HZ.out]⟩, ⟨Kd.R_mono HS21.out (fun _ hk => hk.2)⟩, HO21, HB21⟩
   ·have q0 : ¬ (i : Int) < (ts.length : Int) := by omega
    go_wp2
    go_ret
    refine ⟨_, rfl, ?_, HB.out⟩
    have hz := HZ.out
    rw [List.take_of_length_le (by rw [List.length_zipIdx]; omega)] at hz
    have h1 := HR.out
    rw [hz] at h1
    have h2 := S_of_tag h1 (zip_nodup (fun x => (spec_caClasses.keep k a0 x).getD false) ts 0)
    rw [filter_zip (fun x => (spec_caClasses.keep k a0 x).getD false)] at h2
    exact h2
 ·rw [if_neg hsm] at H
  cases H

/-! ### spec_AllClasses: function 6 -/
def spec_AllClasses.f (k : Nat) (a0 : Int) : Option ((List (List (S52))) × Bool) := (spec_caFew.f a0).bind fun t227 => (if t227 = true then ((spec_caClasses.f k a0).bind fun t228 => (some (t228, true))) else (some (([] : List (List (S52))), false)))
theorem spec_AllClasses.mono : ∀ a0 k, LeO (spec_AllClasses.f k a0) (spec_AllClasses.f (k + 1) a0) := by
 intro a0 k
 unfold spec_AllClasses.f
 repeat' first
   | (with_reducible exact spec_caClasses.mono _ _)
   | (with_reducible exact LeO.refl _)
   | (with_reducible exact LeO.none _)
   | (with_reducible refine LeO.ite ?_ ?_)
   | (with_reducible refine LeO.bind ?_ (fun _ => ?_))
   | exact spec_caClasses.mono _ _
   | exact LeO.none _
   | refine LeO.ite ?_ ?_
   | refine LeO.bind ?_ (fun _ => ?_)
set_option maxHeartbeats 8000000 in
set_option maxRecDepth 100000 in
theorem spec_AllClasses.calls (k : Nat) (a0 : Int) (r1 : List (List (S52))) (r2 : Bool) (w : World) (h : spec_AllClasses.f k a0 = some (r1, r2)) :
  Calls Try.prog 6 #[.int .i64 a0] w fun e w' => ∃ v0_ : Value, e = .returned (.tuple #[v0_, .bool r2]) ∧ Kd.S (Kd.slice 52 k52) 41 w' w.heap.size (fun _ => True) v0_ r1 ∧ Below w.heap.size w w' := by
 have HB := Aside0.mk (Below.refl w.heap.size w)
 have H : ((spec_caFew.f a0).bind fun t227 => (if t227 = true then ((spec_caClasses.f k a0).bind fun t228 => (some (t228, true))) else (some (([] : List (List (S52))), false)))) = some (r1, r2) := h
 clear h
 replace H := Option.bind_eq_some_iff.mp H
 obtain ⟨t227, A20, H⟩ := H
 replace H : (if t227 = true then ((spec_caClasses.f k a0).bind fun t228 => (some (t228, true))) else (some (([] : List (List (S52))), false))) = some (r1, r2) := H
 have A2 := Aside0.mk A20
 clear A20
 by_cases c3 : t227 = true
 ·subst c3
  have H1 : ((spec_caClasses.f k a0).bind fun t228 => (some (t228, true))) = some (r1, r2) := by rw [if_pos rfl] at H; exact H
  clear H
  have H := H1
  clear H1
  replace H := Option.bind_eq_some_iff.mp H
  obtain ⟨t228, A40, H⟩ := H
  replace H : (some (t228, true)) = some (r1, r2) := H
  have A4 := Aside0.mk A40
  clear A40
  simp only [Option.some.injEq, Prod.mk.injEq] at H
  obtain ⟨rfl, rfl⟩ := H
  go_enter Try.func6, Try.ntmps6
  go_wp2_with (first | ((with_reducible refine gate_callee (f := 20) rfl ?_); refine goesL_ (some 5) rfl rfl Try.func20 (by kernel_rfl) rfl #[.int .i64 a0] rfl amp_ ?_; (with_reducible refine (spec_caFew.calls a0 true _ A2.out).mono ?_); rintro e w' ⟨rfl, ⟨nd, rfl⟩⟩; refine ⟨_, rfl, ?_⟩) | ((with_reducible refine gate_callee (f := 21) rfl ?_); refine goesL_ (some 8) rfl rfl Try.func21 (by kernel_rfl) rfl #[.int .i64 a0] rfl amp_ ?_; (with_reducible refine (spec_caClasses.calls k a0 t228 _ A4.out).mono ?_); rintro e w5 ⟨v229, rfl, ho0, hb⟩; refine ⟨_, rfl, ?_⟩; have n0_ := Aside0.mk (Kd.S_lower ho0 (below_size blw_)); have n1_ := Aside0.mk (below_step blw_ hb); clear HB; have HO230 := n0_; have HB := n1_; clear n0_ n1_; (try clear hb); (try clear hb2); (try clear hk); (try clear hi); (try clear ho0)))
  go_ret2
  exact ⟨_, by first | rfl | (simp [errW_none, errW_some] <;> rfl) | (simp [*, errW_none, errW_some] <;> rfl), by (with_reducible repeat (first | apply Kd.S_alloc | apply Kd.S_drewN | apply Kd.S_drew)); exact HO230.out, by repeat (first | (with_reducible first | exact HB.out | apply below_alloc | apply pw_below_drewN | apply below_drew1) | exact HB.out)⟩
 ·replace c3 := Bool.eq_false_iff.mpr c3
  subst c3
  have H1 : (some (([] : List (List (S52))), false)) = some (r1, r2) := by rw [if_neg (show ¬ (false = true) by decide)] at H; exact H
  clear H
  have H := H1
  clear H1
  simp only [Option.some.injEq, Prod.mk.injEq] at H
  obtain ⟨rfl, rfl⟩ := H
  go_enter Try.func6, Try.ntmps6
  go_wp2_with (first | ((with_reducible refine gate_callee (f := 20) rfl ?_); refine goesL_ (some 5) rfl rfl Try.func20 (by kernel_rfl) rfl #[.int .i64 a0] rfl amp_ ?_; (with_reducible refine (spec_caFew.calls a0 false _ A2.out).mono ?_); rintro e w' ⟨rfl, ⟨nd, rfl⟩⟩; refine ⟨_, rfl, ?_⟩))
  go_ret2
  exact ⟨_, by first | rfl | (simp [errW_none, errW_some] <;> rfl) | (simp [*, errW_none, errW_some] <;> rfl), by first | exact Kd.S_nil _ _ _ _ _ | exact Kd.N_nil _ _ _ _ _ | exact Kd.V_nil _ _ _ _ _ | exact Kd.Q_nil _ _ _ _ _ | exact Kd.R_nil _ _ _ _ _, by repeat (first | (with_reducible first | exact HB.out | apply below_alloc | apply pw_below_drewN | apply below_drew1) | exact HB.out)⟩

/-! ### cmp_isNaN_int: function 110 -/
def cmp_isNaN_int.f (a0 : Int) : Option (Bool) := some (a0 != a0)
set_option maxHeartbeats 8000000 in
set_option maxRecDepth 100000 in
theorem cmp_isNaN_int.calls (a0 : Int) (r : Bool) (w : World) (h : cmp_isNaN_int.f a0 = some r) :
  Calls Try.prog 110 #[.int .i64 a0] w fun e w' => e = .returned (.bool r) ∧ Drawn0 w w' := by
 have H : (some (a0 != a0)) = some r := h
 clear h
 obtain rfl := Option.some.inj H
 go_enter Try.func110, Try.ntmps110
 go_wp2
 go_ret
 exact ⟨by first | rfl | (simp; done) | (simp [*]; done), by repeat (first | exact Drawn0.refl _ | apply Drawn0.step)⟩

/-! ### cmp_Compare_int: function 78 -/
def cmp_Compare_int.f (a0 : Int) (a1 : Int) : Option (Int) := (cmp_isNaN_int.f a0).bind fun t231 => ((cmp_isNaN_int.f a1).bind fun t232 => (if t231 = true then (if t232 = true then (some 0) else (some (-1))) else (if t232 = true then (some 1) else (if a0 < a1 then (some (-1)) else (if a0 > a1 then (some 1) else (some 0))))))
set_option maxHeartbeats 8000000 in
set_option maxRecDepth 100000 in
theorem cmp_Compare_int.calls (a0 : Int) (a1 : Int) (r : Int) (w : World) (h : cmp_Compare_int.f a0 a1 = some r) :
  Calls Try.prog 78 #[.int .i64 a0, .int .i64 a1] w fun e w' => e = .returned (.int .i64 r) ∧ Drawn0 w w' := by
 have H : ((cmp_isNaN_int.f a0).bind fun t231 => ((cmp_isNaN_int.f a1).bind fun t232 => (if t231 = true then (if t232 = true then (some 0) else (some (-1))) else (if t232 = true then (some 1) else (if a0 < a1 then (some (-1)) else (if a0 > a1 then (some 1) else (some 0))))))) = some r := h
 clear h
 replace H := Option.bind_eq_some_iff.mp H
 obtain ⟨t231, A30, H⟩ := H
 replace H : ((cmp_isNaN_int.f a1).bind fun t232 => (if t231 = true then (if t232 = true then (some 0) else (some (-1))) else (if t232 = true then (some 1) else (if a0 < a1 then (some (-1)) else (if a0 > a1 then (some 1) else (some 0)))))) = some r := H
 have A3 := Aside0.mk A30
 clear A30
 replace H := Option.bind_eq_some_iff.mp H
 obtain ⟨t232, A40, H⟩ := H
 replace H : (if t231 = true then (if t232 = true then (some 0) else (some (-1))) else (if t232 = true then (some 1) else (if a0 < a1 then (some (-1)) else (if a0 > a1 then (some 1) else (some 0))))) = some r := H
 have A4 := Aside0.mk A40
 clear A40
 by_cases c5 : t231 = true
 ·subst c5
  have H1 : (if t232 = true then (some 0) else (some (-1))) = some r := by rw [if_pos rfl] at H; exact H
  clear H
  have H := H1
  clear H1
  by_cases c6 : t232 = true
  ·subst c6
   have H1 : (some 0) = some r := by rw [if_pos rfl] at H; exact H
   clear H
   have H := H1
   clear H1
   obtain rfl := Option.some.inj H
   go_enter Try.func78, Try.ntmps78
   go_wp2_with (first | ((with_reducible refine gate_callee (f := 110) rfl ?_); refine goesL_ (some 8) rfl rfl Try.func110 (by kernel_rfl) rfl #[.int .i64 a0] rfl amp_ ?_; (with_reducible refine (cmp_isNaN_int.calls a0 true _ A3.out).mono ?_); rintro e w' ⟨rfl, ⟨nd, rfl⟩⟩; refine ⟨_, rfl, ?_⟩) | ((with_reducible refine gate_callee (f := 110) rfl ?_); refine goesL_ (some 10) rfl rfl Try.func110 (by kernel_rfl) rfl #[.int .i64 a1] rfl amp_ ?_; (with_reducible refine (cmp_isNaN_int.calls a1 true _ A4.out).mono ?_); rintro e w' ⟨rfl, ⟨nd, rfl⟩⟩; refine ⟨_, rfl, ?_⟩))
   go_ret
   exact ⟨by first | rfl | (simp; done) | (simp [*]; done), by repeat (first | exact Drawn0.refl _ | apply Drawn0.step)⟩
  ·replace c6 := Bool.eq_false_iff.mpr c6
   subst c6
   have H1 : (some (-1)) = some r := by rw [if_neg (show ¬ (false = true) by decide)] at H; exact H
   clear H
   have H := H1
   clear H1
   obtain rfl := Option.some.inj H
   go_enter Try.func78, Try.ntmps78
   go_wp2_with (first | ((with_reducible refine gate_callee (f := 110) rfl ?_); refine goesL_ (some 8) rfl rfl Try.func110 (by kernel_rfl) rfl #[.int .i64 a0] rfl amp_ ?_; (with_reducible refine (cmp_isNaN_int.calls a0 true _ A3.out).mono ?_); rintro e w' ⟨rfl, ⟨nd, rfl⟩⟩; refine ⟨_, rfl, ?_⟩) | ((with_reducible refine gate_callee (f := 110) rfl ?_); refine goesL_ (some 10) rfl rfl Try.func110 (by kernel_rfl) rfl #[.int .i64 a1] rfl amp_ ?_; (with_reducible refine (cmp_isNaN_int.calls a1 false _ A4.out).mono ?_); rintro e w' ⟨rfl, ⟨nd, rfl⟩⟩; refine ⟨_, rfl, ?_⟩))
   go_ret
   exact ⟨by first | rfl | (simp; done) | (simp [*]; done), by repeat (first | exact Drawn0.refl _ | apply Drawn0.step)⟩
 ·replace c5 := Bool.eq_false_iff.mpr c5
  subst c5
  have H1 : (if t232 = true then (some 1) else (if a0 < a1 then (some (-1)) else (if a0 > a1 then (some 1) else (some 0)))) = some r := by rw [if_neg (show ¬ (false = true) by decide)] at H; exact H
  clear H
  have H := H1
  clear H1
  by_cases c7 : t232 = true
  ·subst c7
   have H1 : (some 1) = some r := by rw [if_pos rfl] at H; exact H
   clear H
   have H := H1
   clear H1
   obtain rfl := Option.some.inj H
   go_enter Try.func78, Try.ntmps78
   go_wp2_with (first | ((with_reducible refine gate_callee (f := 110) rfl ?_); refine goesL_ (some 8) rfl rfl Try.func110 (by kernel_rfl) rfl #[.int .i64 a0] rfl amp_ ?_; (with_reducible refine (cmp_isNaN_int.calls a0 false _ A3.out).mono ?_); rintro e w' ⟨rfl, ⟨nd, rfl⟩⟩; refine ⟨_, rfl, ?_⟩) | ((with_reducible refine gate_callee (f := 110) rfl ?_); refine goesL_ (some 10) rfl rfl Try.func110 (by kernel_rfl) rfl #[.int .i64 a1] rfl amp_ ?_; (with_reducible refine (cmp_isNaN_int.calls a1 true _ A4.out).mono ?_); rintro e w' ⟨rfl, ⟨nd, rfl⟩⟩; refine ⟨_, rfl, ?_⟩))
   go_ret
   exact ⟨by first | rfl | (simp; done) | (simp [*]; done), by repeat (first | exact Drawn0.refl _ | apply Drawn0.step)⟩
  ·replace c7 := Bool.eq_false_iff.mpr c7
   subst c7
   have H1 : (if a0 < a1 then (some (-1)) else (if a0 > a1 then (some 1) else (some 0))) = some r := by rw [if_neg (show ¬ (false = true) by decide)] at H; exact H
   clear H
   have H := H1
   clear H1
   by_cases c8 : a0 < a1
   ·rw [if_pos c8] at H
    have c8b0 : decide (a0 < a1) = true := decide_eq_true c8
    clear c8
    obtain rfl := Option.some.inj H
    go_enter Try.func78, Try.ntmps78
    go_wp2_with (first | ((with_reducible refine gate_callee (f := 110) rfl ?_); refine goesL_ (some 8) rfl rfl Try.func110 (by kernel_rfl) rfl #[.int .i64 a0] rfl amp_ ?_; (with_reducible refine (cmp_isNaN_int.calls a0 false _ A3.out).mono ?_); rintro e w' ⟨rfl, ⟨nd, rfl⟩⟩; refine ⟨_, rfl, ?_⟩) | ((with_reducible refine gate_callee (f := 110) rfl ?_); refine goesL_ (some 10) rfl rfl Try.func110 (by kernel_rfl) rfl #[.int .i64 a1] rfl amp_ ?_; (with_reducible refine (cmp_isNaN_int.calls a1 false _ A4.out).mono ?_); rintro e w' ⟨rfl, ⟨nd, rfl⟩⟩; refine ⟨_, rfl, ?_⟩))
    go_ret
    exact ⟨by first | rfl | (simp; done) | (simp [*]; done), by repeat (first | exact Drawn0.refl _ | apply Drawn0.step)⟩
   ·rw [if_neg c8] at H
    have c8b0 : decide (a0 < a1) = false := decide_eq_false c8
    clear c8
    by_cases c9 : a0 > a1
    ·rw [if_pos c9] at H
     have c9b0 : decide (a1 < a0) = true := decide_eq_true c9
     clear c9
     obtain rfl := Option.some.inj H
     go_enter Try.func78, Try.ntmps78
     go_wp2_with (first | ((with_reducible refine gate_callee (f := 110) rfl ?_); refine goesL_ (some 8) rfl rfl Try.func110 (by kernel_rfl) rfl #[.int .i64 a0] rfl amp_ ?_; (with_reducible refine (cmp_isNaN_int.calls a0 false _ A3.out).mono ?_); rintro e w' ⟨rfl, ⟨nd, rfl⟩⟩; refine ⟨_, rfl, ?_⟩) | ((with_reducible refine gate_callee (f := 110) rfl ?_); refine goesL_ (some 10) rfl rfl Try.func110 (by kernel_rfl) rfl #[.int .i64 a1] rfl amp_ ?_; (with_reducible refine (cmp_isNaN_int.calls a1 false _ A4.out).mono ?_); rintro e w' ⟨rfl, ⟨nd, rfl⟩⟩; refine ⟨_, rfl, ?_⟩))
     go_ret
     exact ⟨by first | rfl | (simp; done) | (simp [*]; done), by repeat (first | exact Drawn0.refl _ | apply Drawn0.step)⟩
    ·rw [if_neg c9] at H
     have c9b0 : decide (a1 < a0) = false := decide_eq_false c9
     clear c9
     obtain rfl := Option.some.inj H
     go_enter Try.func78, Try.ntmps78
     go_wp2_with (first | ((with_reducible refine gate_callee (f := 110) rfl ?_); refine goesL_ (some 8) rfl rfl Try.func110 (by kernel_rfl) rfl #[.int .i64 a0] rfl amp_ ?_; (with_reducible refine (cmp_isNaN_int.calls a0 false _ A3.out).mono ?_); rintro e w' ⟨rfl, ⟨nd, rfl⟩⟩; refine ⟨_, rfl, ?_⟩) | ((with_reducible refine gate_callee (f := 110) rfl ?_); refine goesL_ (some 10) rfl rfl Try.func110 (by kernel_rfl) rfl #[.int .i64 a1] rfl amp_ ?_; (with_reducible refine (cmp_isNaN_int.calls a1 false _ A4.out).mono ?_); rintro e w' ⟨rfl, ⟨nd, rfl⟩⟩; refine ⟨_, rfl, ?_⟩))
     go_ret
     exact ⟨by first | rfl | (simp; done) | (simp [*]; done), by repeat (first | exact Drawn0.refl _ | apply Drawn0.step)⟩

/-! ### cmp_Or_int: function 98 -/
def cmp_Or_int.l0 : Nat → Int → List Int → Int → Int → Option (Int)
 | 0, _, _, _, _ => none
 | k + 1, x3, x6, x7, x8 => if x8 < x7 then (if 0 ≤ x8 then (if x8 < (x6.length : Int) then (if (rd x6 x8) = x3 then (cmp_Or_int.l0 k x3 x6 x7 (wrap64 (x8 + 1))) else (some (rd x6 x8))) else (none)) else (none)) else (some x3)
def cmp_Or_int.f (k : Nat) (l0 : List Int) : Option (Int) := cmp_Or_int.l0 k 0 l0 (l0.length : Int) 0
theorem cmp_Or_int.mono_l : ∀ k, (∀ y0 y1 y2 y3, LeO (cmp_Or_int.l0 k y0 y1 y2 y3) (cmp_Or_int.l0 (k + 1) y0 y1 y2 y3))
 | 0 => fun _ _ _ _ r h => by simp [cmp_Or_int.l0] at h
 | k + 1 => by
  have ih0 := cmp_Or_int.mono_l k
  ·intro y0 y1 y2 y3
   unfold cmp_Or_int.l0
   repeat' first
   | (with_reducible exact ih0 _ _ _ _)
   | (with_reducible exact LeO.refl _)
   | (with_reducible exact LeO.none _)
   | (with_reducible refine LeO.ite ?_ ?_)
   | (with_reducible refine LeO.bind ?_ (fun _ => ?_))
   | exact ih0 _ _ _ _
   | exact LeO.none _
   | refine LeO.ite ?_ ?_
   | refine LeO.bind ?_ (fun _ => ?_)
theorem cmp_Or_int.mono : ∀ a0 k, LeO (cmp_Or_int.f k a0) (cmp_Or_int.f (k + 1) a0) := by
 intro a0 k
 have ih0 := cmp_Or_int.mono_l k
 unfold cmp_Or_int.f
 repeat' first
   | (with_reducible exact ih0 _ _ _ _)
   | (with_reducible exact LeO.refl _)
   | (with_reducible exact LeO.none _)
   | (with_reducible refine LeO.ite ?_ ?_)
   | (with_reducible refine LeO.bind ?_ (fun _ => ?_))
   | exact ih0 _ _ _ _
   | exact LeO.none _
   | refine LeO.ite ?_ ?_
   | refine LeO.bind ?_ (fun _ => ?_)
set_option maxHeartbeats 8000000 in
set_option maxRecDepth 100000 in
theorem cmp_Or_int.calls (k : Nat) (A0 : Option Addr) (c0 : Nat) (l0 : List Int) (r : Int) (w : World) (hr0 : Kd.C (Kd.int .i64) w A0 l0.length l0) (hc0 : l0.length ≤ c0) (h : cmp_Or_int.f k l0 = some r) :
  Calls Try.prog 98 #[.slice A0 l0.length c0] w fun e w' => e = .returned (.int .i64 r) ∧ Drawn0 w w' := by
 have HR0 := Aside0.mk hr0
 have HC0 := Aside0.mk hc0
 clear hr0 hc0
 have H : (cmp_Or_int.l0 k 0 l0 (l0.length : Int) 0) = some r := h
 clear h
 have H' := Aside0.mk H
 clear H
 go_enter Try.func98, Try.ntmps98
 go_wp2
 go_loopg [8] k (fun kq v8 w' => ∃ (x8_1 : Int), v8 = .int .i64 x8_1 ∧ Aside0 (cmp_Or_int.l0 kq 0 l0 (l0.length : Int) x8_1 = some r) ∧ Aside0 (kq ≤ k) ∧ Drawn0 w w')
 case atStart => exact ⟨(0), (by first | rfl | (simp; done) | (simp [*]; done)), H', ⟨Nat.le_refl _⟩, by repeat (first | exact Drawn0.refl _ | apply Drawn0.step)⟩
 case round =>
  clear H'
  obtain ⟨x8_1, rfl, HA, HK1, ⟨m1, rfl⟩⟩ := hrel
  cases gk with
  | zero => exact absurd HA.out (by simp [cmp_Or_int.l0])
  | succ k1 =>
   have H := HA.out
   clear HA
   simp only [cmp_Or_int.l0] at H
   by_cases c2 : x8_1 < (l0.length : Int)
   ·rw [if_pos c2] at H
    have c2b0 : decide (x8_1 < (l0.length : Int)) = true := decide_eq_true c2
    clear c2
    by_cases c3 : 0 ≤ x8_1
    ·rw [if_pos c3] at H
     have c3b0 : decide (0 ≤ x8_1) = true := decide_eq_true c3
     clear c3
     by_cases c4 : x8_1 < (l0.length : Int)
     ·rw [if_pos c4] at H
      have c4b0 : decide (x8_1 < (l0.length : Int)) = true := decide_eq_true c4
      clear c4
      by_cases c5 : (rd l0 x8_1) = 0
      ·rw [if_pos c5] at H
       have c5b0 : ((rd l0 x8_1) == 0) = true := beq_iff_eq.mpr c5
       have c5b1 : ((rd l0 x8_1) != 0) = false := bne_eq_false_iff_eq.mpr c5
       clear c5
       have H' := Aside0.mk H
       clear H
       have p233 : 0 ≤ (x8_1 : Int) := odt_
       have q233 : x8_1 < (l0.length : Int) := odt_
       obtain ⟨ad233, e233, hx233_0⟩ := Kd.at_int HR0.out x8_1 p233 q233
       cases e233
       replace p233 := eq_true p233
       replace q233 := eq_true q233
       go_wp2
       go_roundg k1
       case measure => have := HK1.out; omega
       case rel => exact ⟨(wrap64 (x8_1 + 1)), (by first | rfl | (simp; done) | (simp [*]; done)), H', ⟨by have := HK1.out; omega⟩, by repeat (first | exact Drawn0.refl _ | apply Drawn0.step)⟩
      ·rw [if_neg c5] at H
       have c5b0 : ((rd l0 x8_1) == 0) = false := beq_eq_false_iff_ne.mpr c5
       have c5b1 : ((rd l0 x8_1) != 0) = true := bne_iff_ne.mpr c5
       obtain rfl := Option.some.inj H
       have p233 : 0 ≤ (x8_1 : Int) := odt_
       have q233 : x8_1 < (l0.length : Int) := odt_
       obtain ⟨ad233, e233, hx233_0⟩ := Kd.at_int HR0.out x8_1 p233 q233
       cases e233
       replace p233 := eq_true p233
       replace q233 := eq_true q233
       go_wp2
       go_ret
       exact ⟨by first | rfl | (simp; done) | (simp [*]; done), by repeat (first | exact Drawn0.refl _ | apply Drawn0.step)⟩
     ·rw [if_neg c4] at H
      exact absurd H (by simp)
    ·rw [if_neg c3] at H
     exact absurd H (by simp)
   ·rw [if_neg c2] at H
    have c2b0 : decide (x8_1 < (l0.length : Int)) = false := decide_eq_false c2
    clear c2
    obtain rfl := Option.some.inj H
    go_wp2
    go_ret
    exact ⟨by first | rfl | (simp; done) | (simp [*]; done), by repeat (first | exact Drawn0.refl _ | apply Drawn0.step)⟩

end Go.Proofs.Ytgblginphicacaa.PFnExactAllClasses
