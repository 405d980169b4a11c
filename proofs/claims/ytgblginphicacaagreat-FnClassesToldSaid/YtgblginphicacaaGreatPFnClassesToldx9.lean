-- WRITTEN BY A PROGRAM OF THIS WORK (wip/tools/ppatch.py) for this claim.
import Derived.Test.YtgblginphicacaaGreatPFnClassesToldx0
import Derived.Test.YtgblginphicacaaGreatPFnClassesToldx6
import Derived.Test.YtgblginphicacaaGreatPFnClassesToldx8
namespace Go.Proofs.YtgblginphicacaaGreat.PFnClassesTold
open Go.RowKit Go.Proofs.YtgblginphicacaaGreatW.PrintWords Go.Proofs.YtgblginphicacaaGreatW.PrintLast Go.Proofs.YtgblginphicacaaGreatW.PrintMore
set_option maxHeartbeats 8000000
set_option maxRecDepth 100000
attribute [local go_sem] yT yV vX vY jX jY yU yX   -- for this text's walks alone
set_option linter.unusedVariables false
set_option linter.unusedSimpArgs false

/-! ### zP: function 6 -/
theorem R_spare {α : Type} {d : Kd α} {e base n cap g m o : Nat} {ok : Nat → Prop} {W : World} {xs : List α} {cs : List Value} (h : d.R e W base ok (.slice (some ⟨g, 0, none⟩) n cap) xs) (hm : m ≤ n) (ho : m * d.sz ≤ o) (hfit : o + cs.length ≤ cap * d.sz) :
  d.R e (W.setCells g o cs) base ok (.slice (some ⟨g, 0, none⟩) m cap) (xs.take m) := by
 have hn : n = xs.length := (Kd.qc h).1;have h' := Kd.R_take h (m := m) (by omega);obtain ⟨hok, inner, hown, hr⟩ := h';have hin : inner.length = m * d.sz := (by rw [hr.1, List.length_take, Nat.min_eq_left (by omega)]);obtain ⟨ho1, ho2⟩ := hown;rcases ho2 with ⟨hv, _⟩ | ⟨g', cap', cur, hv, hb, hh, hnc', hcm, hcs, ht⟩
 ·cases hv
 injection hv with ha hml hc;injection ha with ha;injection ha with hg;subst hg; subst hc;obtain ⟨cur', h3, h4, h5⟩ := Zi cs o W cur hh (by omega);have hfar : ∀ k, k ≠ g → (W.setCells g o cs).heap[k]? = W.heap[k]? := fun k hk => Zb cs _ k hk;refine ⟨hok, inner, ⟨ho1, .inr ⟨g, cap, cur', by rw [← hml], hb, h3, hnc', hcm, by rw [h4, hcs], ?_⟩⟩, hr.1, fun q p hq => ?_⟩
 ·rw [← ht, h5];apply List.ext_getElem?;intro q;rw [List.getElem?_take, List.getElem?_take, QS cur.toList cs o (by have : cur.toList.length = cur.size := Array.length_toList; omega) q];rw [← hml];by_cases hq : q < m * d.sz
  ·rw [if_pos hq, if_pos hq, if_pos (by omega)]
  ·rw [if_neg hq, if_neg hq]
 ·exact d.M_move (fun k hk => hfar k (fun he => hk.2 (by rw [he]; simp [Value.ownBlock]))) (hr.2 q p hq)
theorem run_clear_one {P : Program} (w : World) (t e ty : TypeId) (z : Value) (ht : P.underlying t = some (.slice e)) (hv : ∀ w, (zeroValue e).run P w = .ok z w) (hz : z.cells = #[z]) (h0 : z.oneCell' = true) (b o n c : Nat) (hn : 0 < n)
  (hc : ∀ j, j < n → (w.cell? ⟨b, o + j, none⟩).isSome = true) (hf : ∀ j, j < n → w.frozen? ⟨b, o + j, none⟩ = false) :
  ∃ cs : List Value, cs.length = n ∧ (Builtin.clear_ #[t] ty #[.slice (some ⟨b, o, none⟩) n c]).run P w = .ok (.tuple #[]) (w.setCells b o cs) := by
 have hl : (Builtin.zeroCells z.cells n).toList.length = n := by
  rw [hz];simp [Builtin.zeroCells]
 have hone : ∀ v ∈ (Builtin.zeroCells z.cells n).toList, v.oneCell' = true := by
  rw [hz];intro v hv';simp only [Builtin.zeroCells, Array.toList_map, List.mem_map] at hv';obtain ⟨i, _, rfl⟩ := hv';have : i % 1 = 0 := (by omega);simp [this, h0]
 refine ⟨(Builtin.zeroCells z.cells n).toList, hl, ?_⟩;have hst := run_storeCells_cells (P := P) b o (Builtin.zeroCells z.cells n).toList 0 w (by rw [hl]; simpa using hc) (by rw [hl]; simpa using hf) hone;simp only [Nat.add_zero] at hst;obtain ⟨m, rfl⟩ : ∃ m, n = m + 1 := ⟨n - 1, by omega⟩;simp [Builtin.clear_, run_underlying ht, hv, hst]
theorem QO {α : Type} (q : α → Bool) (l : List α) (j : Nat) (h : j < l.length) : (l.take (j + 1)).filter q = (l.take j).filter q ++ if q l[j] = true then [l[j]] else [] := by
 rw [List.take_succ_eq_append_getElem h, List.filter_append, List.filter_cons];rfl
theorem idxOf_found {α : Type} (p : α → Bool) : ∀ (l : List α) (i : Nat), (idxOf p l i = -1 ∧ ∀ x ∈ l, p x = false) ∨ (∃ (A : List α) (x : α) (B : List α), l = A ++ x :: B ∧ p x = true ∧ (∀ y ∈ A, p y = false) ∧ idxOf p l i = ((i + A.length : Nat) : Int))
 | [], _ => .inl ⟨rfl, fun x hx => by cases hx⟩
 | y :: l, i => by
  unfold idxOf;by_cases h : p y = true
  ·rw [if_pos h];refine .inr ⟨[], y, l, rfl, h, ?_, by simp⟩;intro z hz;cases hz
  ·rw [if_neg h];rcases idxOf_found p l (i + 1) with ⟨h1, h2⟩ | ⟨A, x, B, h1, h2, h3, h4⟩
   ·refine .inl ⟨h1, fun x hx => ?_⟩;rcases List.mem_cons.1 hx with e | e
    ·rw [e];simpa using h
    ·exact h2 x e
   ·refine .inr ⟨y :: A, x, B, by rw [h1]; rfl, h2, fun z hz => ?_, ?_⟩
    ·rcases List.mem_cons.1 hz with e | e
     ·rw [e];simpa using h
     ·exact h3 z e
    ·rw [h4, List.length_cons];congr 1;omega
theorem below_setCells {B : Nat} {a : World} {g : Nat} (hg : B ≤ g) : ∀ (vs : List Value) (o : Nat) (w : World), Below B a w → Below B a (w.setCells g o vs)
 | [], _, _, h => h
 | v :: r, o, w, h => by
  rw [World.setCells];exact below_setCells hg r (o + 1) _ (h.setCell (show B ≤ (⟨g, o, none⟩ : Addr).block from hg) v)

theorem zeroL : ∀ w, (zeroValue 32).run Tryz.prog w = .ok (.slice none 0 0) w := fun w => by go_simp
theorem idxOf_map {α β : Type} (p : β → Bool) (f : α → β) : ∀ (l : List α) (i : Nat), idxOf p (l.map f) i = idxOf (fun x => p (f x)) l i
 | [], _ => rfl
 | x :: l, i => by
  rw [List.map_cons];unfold idxOf;rw [idxOf_map p f l (i + 1)]
theorem C_untag {f : Nat → Nat} {α : Type} {d : Kd α} {w : World} {A : Option Addr} {zs : List (α × Nat)} (h : Kd.C (Kd.tag f d) w A zs.length zs) : Kd.C d w A (zs.map Prod.fst).length (zs.map Prod.fst) := by
 refine ⟨rfl, by rw [List.length_map]; exact h.2.1, fun hn => ?_⟩;rw [List.length_map] at hn;obtain ⟨ad, e, hc⟩ := h.2.2 hn;refine ⟨ad, e, fun j p hj => ?_⟩;rw [List.getElem?_map] at hj;obtain ⟨z, hz, rfl⟩ := Option.map_eq_some_iff.1 hj;exact hc j z hz
theorem elemL {w : World} {A : Option Addr} {l : List (List S62)} (h : Kd.C (Kd.slice 62 k62) w A l.length l) (i : Nat) (hi : i < l.length) :
  ∃ ad Ax cx, A = some ad ∧ w.cell? (ad.add i) = some (.slice Ax (l.getD i []).length cx) ∧ (l.getD i []).length ≤ cx ∧ Kd.C k62 w Ax (l.getD i []).length (l.getD i []) := by
 obtain ⟨ad, c, e, _, hK, hc⟩ := Kd.C_get h ([] : List S62) (i : Int) (by omega) (by omega);rw [Int.toNat_natCast] at hK hc;obtain ⟨Ax, cx, rfl, h1, h2⟩ := hK;have h3 := hc 0 _ rfl;rw [show (Kd.slice 62 k62).sz = 1 from rfl, Nat.mul_one, Nat.add_zero] at h3;exact ⟨ad, Ax, cx, e, h3, h1, h2⟩
set_option maxHeartbeats 2000000 in
theorem IndexFuncL (p : List S62 → Bool) (g : Nat) (lb : Array Value) (eg : ∀ args w, (callFunc g args).run Tryz.prog w = .ok (.enter g args) w) (A0 : Option Addr) (c0 : Nat) (l0 : List (List S62)) (w : World) (hr0 : Kd.C (Kd.slice 62 k62) w A0 l0.length l0)
  (hp : ∀ (W : World) (A : Option Addr) (c : Nat) (x : List S62), x ∈ l0 → Below w.heap.size w W → Kd.C k62 W A x.length x → x.length ≤ c → Calls Tryz.prog g (#[.slice A x.length c] ++ lb) W fun e w' => e = .returned (.bool (p x)) ∧ Below W.heap.size W w') :
  Calls Tryz.prog 109 #[.slice A0 l0.length c0, .func (.func g) #[] lb] w fun e w' => e = .returned (.int .i64 (idxOf p l0 0)) ∧ Below w.heap.size w w' := by
 have hbig : l0.length ≤ 9223372036854775807 := hr0.2.1;have HR0 := qa.mk hr0;have HP := qa.mk hp;clear hr0 hp;go_enter Tryz.func109, Tryz.ntmps109;go_wp2;go_loopg [5, 8] l0.length (fun gg _ s8 wr => ∃ i : Nat, i ≤ l0.length ∧ l0.length - i ≤ gg ∧ s8 = .int .i64 i ∧ qa (idxOf p l0 0 = idxOf p (l0.drop i) i) ∧ qa (Below w.heap.size w wr));(case atStart => exact ⟨0, Nat.zero_le _, by omega, rfl, ⟨by rw [List.drop_zero]⟩, ⟨Below.refl _ w⟩⟩);case round =>
  obtain ⟨i, hi, hg, rfl, HX, HB⟩ := hrel;by_cases hlt : i < l0.length
  ·have p0 : (0 : Int) ≤ (i : Int) := (by omega);have q0 : (i : Int) < (l0.length : Int) := (by omega);obtain ⟨ad, Ax, cx, rfl, h0, hcx, hCx⟩ := elemL (Kd.zF HR0.out HB.out) i hlt;have hstep := kG p ([] : List S62) l0 i hlt
   have hmem : l0.getD i [] ∈ l0 := by
    rw [List.getD_eq_getElem?_getD, List.getElem?_eq_getElem hlt];exact List.getElem_mem _
   have hcall := HP.out wr Ax cx (l0.getD i []) hmem HB.out hCx hcx;clear hmem hCx hcx;generalize l0.getD i [] = x at h0 hstep hcall;cases hq : p x with
   | true =>
    rw [hq] at hcall hstep;have HC := Lib.hid hcall;have HS := Lib.hid hstep;clear hcall hstep hq;go_wp2_with (go_at_fn g; refine HC.out.mono ?_; rintro e w' ⟨rfl, hb'⟩);go_ret;exact ⟨by rw [HX.out, HS.out]; rfl, HB.out.trans (hb'.mono (qz HB.out))⟩
   | false =>
    rw [hq] at hcall hstep;have HC := Lib.hid hcall;have HS := Lib.hid hstep;clear hcall hstep hq;go_wp2_with (go_at_fn g; refine HC.out.mono ?_; rintro e w' ⟨rfl, hb'⟩);go_roundg (l0.length - (i + 1));(case measure => omega);case rel => exact ⟨i + 1, by omega, by omega, by go_num, ⟨by rw [HX.out, HS.out]; rfl⟩, ⟨HB.out.trans (hb'.mono (qz HB.out))⟩⟩
  ·have hltz : ¬ (i : Int) < (l0.length : Int) := (by omega);go_wp2;go_ret;exact ⟨by rw [HX.out, List.drop_of_length_le (by omega)]; rfl, HB.out⟩
set_option maxHeartbeats 4000000 in
set_option maxRecDepth 100000 in
theorem DeleteFuncL (f : Nat → Nat) (p : List S62 → Bool) (g : Nat) (lb : Array Value) (eg : ∀ args w, (callFunc g args).run Tryz.prog w = .ok (.enter g args) w) (u : Value) (l0 : List (List S62 × Nat)) (base : Nat) (w0 w : World) (ok : Nat → Prop) (hR : Kd.R (Kd.tag f (Kd.slice 62 k62)) 32 w base ok u l0) (hB : Below base w0 w) (hbs : base ≤ w.heap.size)
  (hp : ∀ (W : World) (A : Option Addr) (c : Nat) (x : List S62), x ∈ l0.map Prod.fst → Below base w0 W → w.heap.size ≤ W.heap.size → Kd.C k62 W A x.length x → x.length ≤ c → Calls Tryz.prog g (#[.slice A x.length c] ++ lb) W fun e w' => e = .returned (.bool (p x)) ∧ Below W.heap.size W w') :
  Calls Tryz.prog 78 #[u, .func (.func g) #[] lb] w fun e w' => ∃ v0_ : Value, e = .returned v0_ ∧ Kd.R (Kd.tag f (Kd.slice 62 k62)) 32 w' base ok v0_ (l0.filter fun z => !p z.1) ∧ Below base w0 w' := by
 obtain ⟨A0, c0, rfl, hc0, hr0⟩ := Kd.ZG hR;have hi := IndexFuncL p g lb eg A0 c0 (l0.map Prod.fst) w (C_untag hr0) (fun W A c x hx hW hC hc => hp W A c x hx (hB.trans (hW.mono hbs)) hW.size hC hc);rw [idxOf_map, List.length_map] at hi;rcases idxOf_found (fun z : List S62 × Nat => p z.1) l0 0 with ⟨h1, h2⟩ | ⟨A, x, B, h1, h2, h3, h4⟩
 ·rw [h1] at hi
  have hf : l0.filter (fun z => !p z.1) = l0 := by
   rw [List.filter_eq_self];intro y hy;rw [h2 y hy];rfl
  rw [hf];have HI := Lib.hid hi;have HR := qa.mk hR;have HB := qa.mk hB;clear hi hR hB hp hr0 hf h1 h2;go_enter Tryz.func78, Tryz.ntmps78;go_wp2_with (go_at_call 109; refine HI.out.mono ?_; rintro e w1 ⟨rfl, hb⟩);go_ret;exact ⟨_, rfl, Kd.xk HR.out hb, HB.out.trans (hb.mono hbs)⟩
 ·rw [h4, Nat.zero_add] at hi;have hlen : l0.length = A.length + (B.length + 1) := (by rw [h1]; simp);obtain ⟨bg, cap, e1, hbg, hlt, _⟩ := Kd.kV hR (by omega);injection e1 with ea _ ec;subst ea; subst ec;have hne : ((A.length : Int) == -1) = false := beq_eq_false_iff_ne.2 (by omega)
  have hA : (l0.take (A.length + 1)).filter (fun z => !p z.1) = A := by
   have : l0.take (A.length + 1) = A ++ [x] := by
    rw [h1, List.take_append, List.take_of_length_le (by omega), Nat.add_sub_cancel_left];rfl
   rw [this, List.filter_append, List.filter_cons, h2]
   have h5 : A.filter (fun z => !p z.1) = A := by
    rw [List.filter_eq_self];intro y hy;rw [h3 y hy];rfl
   rw [h5];simp
  have HI := Lib.hid hi;have HR := qa.mk hR;have HB := qa.mk hB;have HP := qa.mk hp;have HA := qa.mk hA;have H1 := qa.mk h1;have hAl : A.length < l0.length := (by omega);have hbig : l0.length ≤ 9223372036854775807 := hr0.2.1;clear hi hR hB hp hr0 hA h4 h1 hlen;go_enter Tryz.func78, Tryz.ntmps78;go_wp2_with (go_at_call 109; refine HI.out.mono ?_; rintro e w1 ⟨rfl, hb⟩; have hs1 := qa.mk (Below.size hb); have HR1 := qa.mk (Kd.xk HR.out hb); have HB1 := qa.mk (Below.trans HB.out (hb.mono hbs)); clear hb);go_loopg [5, 6, 7] l0.length (fun gg s5 s6 _ wr => ∃ (i j : Nat) (xs : List (List S62 × Nat)), s5 = .int .i64 i ∧ s6 = .int .i64 j ∧ i < j ∧ j ≤ l0.length ∧ l0.length - j ≤ gg ∧ xs.length = l0.length ∧ qa (xs.take i = (l0.take j).filter fun z => !p z.1) ∧ qa (xs.drop j = l0.drop j) ∧ qa (Kd.R (Kd.tag f (Kd.slice 62 k62)) 32 wr base ok (.slice (some ⟨bg, 0, none⟩) l0.length c0) xs) ∧ qa (Below base w0 wr) ∧ qa (w.heap.size ≤ wr.heap.size));case atStart =>
   refine ⟨A.length, A.length + 1, l0, rfl, ?_, Nat.lt_succ_self _, hAl, ?_, rfl, ⟨?_⟩, ⟨rfl⟩, HR1, HB1, hs1⟩
   ·rfl
   ·omega
   ·rw [HA.out, H1.out];simp
  case round =>
   obtain ⟨i, j, xs, rfl, rfl, hij, hjl, hgg, hxl, HT, HD, HRx, HBx, HS⟩ := hrel;by_cases hlt : j < l0.length
   ·have hltz : (j : Int) < (l0.length : Int) := (by omega);have p0 : (0 : Int) ≤ (j : Int) := (by omega);have p1 : (0 : Int) ≤ (i : Int) := (by omega);have q1 : (i : Int) < (l0.length : Int) := (by omega);obtain ⟨cj, hcl, hM, hcc, hfr⟩ := Kd.Ql HRx.out (([], 0) : List S62 × Nat) (j : Int) p0 hltz
    have erd : xs.getD (j : Int).toNat ([], 0) = l0[j] := by
     have hd := HD.out;rw [Int.toNat_natCast];have h2 : (xs.drop j)[0]? = (l0.drop j)[0]? := (by rw [hd]);rw [List.getElem?_drop, List.getElem?_drop, Nat.add_zero, List.getElem?_eq_getElem hlt] at h2;rw [List.getD_eq_getElem?_getD, h2];rfl
    rw [erd] at hM;have hmem : l0[j].1 ∈ l0.map Prod.fst := List.mem_map_of_mem (List.getElem_mem _);generalize hx : l0[j] = y at hM hmem;have HX := qa.mk hx;have HM := qa.mk hM;obtain ⟨vy, hvy, hRy⟩ := hM;subst hvy;obtain ⟨Ay, cy, rfl, hcy, hCy⟩ := Kd.ZG hRy
    have h0 : wr.cell? ⟨bg, j, none⟩ = some (.slice Ay y.1.length cy) := by
     have h3 := hcc 0 _ rfl;rw [show (Kd.tag f (Kd.slice 62 k62)).sz = 1 from rfl, Nat.mul_one, Nat.add_zero, Int.toNat_natCast] at h3;exact h3
    have hcall := HP.out wr Ay cy y.1 hmem HBx.out HS.out hCy hcy;clear hx erd hcl hcc hfr hRy hCy hmem;cases hq : p y.1 with
    | false =>
     rw [hq] at hcall;have HC := qa.mk hcall;clear hcall;go_wp2_with (go_at_fn g; refine HC.out.mono ?_; rintro e w' ⟨rfl, hb'⟩; have HRw := qa.mk (Kd.xk HRx.out hb'); have HM2 := qa.mk (Kd.JM HM.out hb'); obtain ⟨ci, hcl2, hMi, hcc2, hfr2⟩ := Kd.Ql HRw.out (([], 0) : List S62 × Nat) (i : Int) p1 q1; obtain ⟨vi, hvi, _⟩ := hMi; subst hvi; have g0 : w'.cell? ⟨bg, i, none⟩ = some vi := (by have h3 := hcc2 0 _ rfl; rw [show (Kd.tag f (Kd.slice 62 k62)).sz = 1 from rfl, Nat.mul_one, Nat.add_zero, Int.toNat_natCast] at h3; exact h3); have f0 : w'.frozen? ⟨bg, i, none⟩ = false := (by have h3 := hfr2 0; rw [show (Kd.tag f (Kd.slice 62 k62)).sz = 1 from rfl, Nat.mul_one, Nat.add_zero, Int.toNat_natCast] at h3; exact h3); have HC2 := qa.mk hcc2; have HL2 := qa.mk hcl2; have HB2 := qa.mk hb'; clear hb' hcc2 hcl2 hfr2 HC);go_roundg (l0.length - (j + 1));(case measure => omega);case rel =>
      have hix : i < xs.length := by omega
      have hseg := Kd.R_seg HRw.out (i : Int) p1 q1 (j := 0) (seg := [.slice Ay y.1.length cy]) (okp := fun k => ok k ∧ k ≠ bg) (x' := y) HL2.out HC2.out (Nat.le_refl 1) (by
       have hl : [vi].length = 1 := rfl;rw [List.take_zero, List.nil_append, List.drop_of_length_le (by rw [hl]; exact Nat.le_refl 1), List.append_nil];exact HM2.out) (fun _ h => h)
      refine ⟨i + 1, j + 1, xs.set i y, rfl, rfl, by omega, by omega, Nat.le_refl _, by rw [List.length_set]; exact hxl, ⟨?_⟩, ⟨?_⟩, ⟨?_⟩, ⟨?_⟩, ⟨?_⟩⟩
      ·rw [List.take_succ_eq_append_getElem (by rw [List.length_set]; exact hix), List.getElem_set_self, List.take_set_of_le (Nat.le_refl i), HT.out, QO _ _ _ hlt, HX.out, hq];rfl
      ·rw [List.drop_set_of_lt (by omega)];have h5 := congrArg (List.drop 1) HD.out;rwa [List.drop_drop, List.drop_drop] at h5
      ·have h6 := hseg.1;rw [show (Kd.tag f (Kd.slice 62 k62)).sz = 1 from rfl, Nat.mul_one, Nat.add_zero, Int.toNat_natCast] at h6;exact h6
      ·exact (HBx.out.trans (HB2.out.mono (Nat.le_trans hbs HS.out))).setCell (show base ≤ (⟨bg, i, none⟩ : Addr).block from hbg) _
      ·have hsz : ∀ (W : World) (a : Addr) (v : Value), (W.setCell a v).heap.size = W.heap.size := fun W a v => (by simp [World.setCell]);rw [hsz];exact Nat.le_trans HS.out HB2.out.size
    | true =>
     rw [hq] at hcall;have HC := qa.mk hcall;clear hcall;go_wp2_with (go_at_fn g; refine HC.out.mono ?_; rintro e w' ⟨rfl, hb'⟩; have HRw := qa.mk (Kd.xk HRx.out hb'); have HB2 := qa.mk hb'; clear hb');go_roundg (l0.length - (j + 1));(case measure => omega);case rel =>
      refine ⟨i, j + 1, xs, rfl, rfl, by omega, by omega, Nat.le_refl _, hxl, ⟨?_⟩, ⟨?_⟩, HRw, ⟨?_⟩, ⟨?_⟩⟩
      ·rw [HT.out, QO _ _ _ hlt, HX.out, hq];simp
      ·have h5 := congrArg (List.drop 1) HD.out;rwa [List.drop_drop, List.drop_drop] at h5
      ·exact HBx.out.trans (HB2.out.mono (Nat.le_trans hbs HS.out))
      ·exact Nat.le_trans HS.out HB2.out.size
   ·obtain rfl : j = l0.length := (by omega);have hltz : ¬ (l0.length : Int) < (l0.length : Int) := (by omega);have hform := HRx.out;obtain ⟨_, inner, hown, _⟩ := hform;obtain ⟨_, ho2⟩ := hown;rcases ho2 with ⟨hv, _⟩ | ⟨g', cap', cur, hv, _, hh, hnc', hcm, hcs, _⟩
    ·cases hv
    injection hv with ha hnn hcc;injection ha with ha;injection ha with hgg2;subst hgg2; subst hcc;have hcs2 : cur.size = c0 * 1 := hcs;have aa : l0.length ≤ c0 := by rw [hxl] at hnc'; exact hnc'
    obtain ⟨cs, hcl, hrun⟩ : ∃ cs : List Value, cs.length = l0.length - i ∧ ∀ ty, (Builtin.clear_ #[25] ty #[.slice (some ⟨bg, i, none⟩) (l0.length - i) (c0 - i)]).run Tryz.prog wr = .ok (.tuple #[]) (wr.setCells bg i cs) := by
     have hcell : ∀ q, q < l0.length - i → (wr.cell? ⟨bg, i + q, none⟩).isSome = true := fun q hq => by
      rw [cell_of_row wr bg _ cur 32 (0, 0) hh, Array.getElem?_eq_getElem (by omega)];rfl
     have hfro : ∀ q, q < l0.length - i → wr.frozen? ⟨bg, i + q, none⟩ = false := fun q _ => zJ hh _;obtain ⟨cs, h1, h2⟩ := run_clear_one (P := Tryz.prog) wr 25 32 0 (.slice none 0 0) Tryz.underlying25 zeroL rfl rfl bg i (l0.length - i) (c0 - i) (by omega) hcell hfro;exact ⟨cs, h1, fun ty => h2⟩
    have HCL := qa.mk hcl;have HXL := qa.mk hxl;have HHH := qa.mk hh;have HCS := qa.mk hcs2;clear hcl hxl hh hcs hcs2 hnc' hnn;go_wp2;go_ret;refine ⟨.slice (some ⟨bg, 0, none⟩) i c0, rfl, ?_, below_setCells hbg cs _ _ HBx.out⟩
    have h5 := R_spare (m := i) (o := i) (cs := cs) HRx.out (by omega) (by show i * 1 ≤ i; omega) (by
     rw [HCL.out];show i + (l0.length - i) ≤ c0 * 1;omega)
    rw [HT.out, List.take_of_length_le (Nat.le_refl _)] at h5;exact h5
/-- What is left of rows that lie apart lies apart. -/
theorem S_of_tag {f : Nat → Nat} {α : Type} {d : Kd α} {e base : Nat} {w : World} {ok : Nat → Prop} {v : Value} {zs : List (α × Nat)} (h : Kd.R (Kd.tag f d) e w base ok v zs) (hn : (zs.map Prod.snd).Nodup) : Kd.S d e w base ok v (zs.map Prod.fst) := by
 obtain ⟨h0, inner, ho, hr⟩ := h;refine ⟨fun k => (zs.map Prod.snd).idxOf (f k), h0, inner, by rw [List.length_zipIdx, List.length_map]; exact ho, by have := hr.1; rw [List.length_zipIdx, List.length_map]; exact this, fun j q hj => ?_⟩;rw [List.getElem?_zipIdx, List.getElem?_map, Nat.zero_add] at hj;cases hz : zs[j]? with
 | none => rw [hz] at hj; cases hj
 | some z =>
  rw [hz] at hj;simp only [Option.map_some, Option.some.injEq] at hj;subst hj;refine d.M_mono (fun k hk => ⟨hk.1, ?_⟩) (hr.2 j z hz);have hjl := (List.getElem?_eq_some_iff.1 hz).1
  have hg : (zs.map Prod.snd)[j]'(by rw [List.length_map]; exact hjl) = z.2 := by
   rw [List.getElem_map];rw [List.getElem?_eq_getElem hjl] at hz;injection hz with hz;rw [hz]
  show (zs.map Prod.snd).idxOf (f k) = j;rw [hk.2, ← hg];exact hn.idxOf_getElem j _
theorem filter_zip {α : Type} (q : α → Bool) (l : List α) (i : Nat) : ((l.zipIdx i).filter fun z => q z.1).map Prod.fst = l.filter q := by
 induction l generalizing i with
 | nil => rfl
 | cons x l ih =>
  rw [List.zipIdx_cons, List.filter_cons, List.filter_cons];cases q x
  ·simp only [Bool.false_eq_true, if_false];exact ih (i + 1)
  ·simp only [if_true, List.map_cons];rw [ih (i + 1)]
theorem zip_nodup {α : Type} (q : α → Bool) (l : List α) (i : Nat) : (((l.zipIdx i).filter fun z => q z.1).map Prod.snd).Nodup := by
 have h : ((l.zipIdx i).map Prod.snd).Nodup := by
  rw [List.zipIdx_map_snd];exact List.nodup_range' ..
 exact h.sublist (List.Sublist.map _ List.filter_sublist)

/-- The literal in least: does 'of' give the list itself? -/
theorem kg (k : Nat) (n : Int) (x y : List S62) (b : Bool) (g : Nat) (lb : Array Value) (eg : ∀ args w, (callFunc g args).run Tryz.prog w = .ok (.enter g args) w) (w : World) (go gn : Nat) (A : Option Addr) (c : Nat) (hgo : w.heap[go]? = some (.cells #[.func (.func g) #[] lb] 56 (0, 0))) (hgn : w.heap[gn]? = some (.cells #[.int .i64 n] 3 (0, 0))) (hC : Kd.C k62 w A x.length x) (hc : x.length ≤ c)
  (hof : Calls Tryz.prog g (#[.int .i64 n, .slice A x.length c] ++ lb) w fun e w' => ∃ v : Value, e = .returned v ∧ Kd.R k62 62 w' w.heap.size (fun _ => True) v y ∧ Below w.heap.size w w') (he : qH.f k y x = some b) :
  Calls Tryz.prog 80 (#[.slice A x.length c] ++ #[.pointer (some ⟨go, 0, none⟩), .pointer (some ⟨gn, 0, none⟩)]) w fun e w' => e = .returned (.bool (!b)) ∧ Below w.heap.size w w' := by
 have h0 : w.cell? ⟨go, 0, none⟩ = some (.func (.func g) #[] lb) := (qh hgo 0).trans rfl;have h1 : w.cell? ⟨gn, 0, none⟩ = some (.int .i64 n) := (qh hgn 0).trans rfl;have HF := qa.mk hof;have HE := qa.mk he;have HC := qa.mk hC;have HL := qa.mk hc;clear hof he hC hc hgo hgn;show Calls Tryz.prog 80 #[.slice A x.length c, .pointer (some ⟨go, 0, none⟩), .pointer (some ⟨gn, 0, none⟩)] w _;go_enter Tryz.func80, Tryz.ntmps80;go_wp2_with (first
  | (go_at_fn g; refine HF.out.mono ?_; rintro e w8 ⟨v8, rfl, ho8, hb8⟩; obtain ⟨A8, c8, rfl⟩ := Kd.ql ho8; have HO8 := qa.mk ho8; have HB8 := qa.mk hb8; clear ho8 hb8)
  | (go_at_call 55; refine (qH.calls k A8 c8 y A c x b _ (Kd.qc HO8.out).2.2 (Kd.qc HO8.out).2.1 (Kd.zF HC.out HB8.out) HL.out HE.out).mono ?_; rintro e w10 ⟨rfl, hb10⟩; have HB10 := qa.mk (show Below w8.heap.size w8 w10 from by first | exact hb10 | exact zh.below hb10); clear hb10))
 go_ret;exact ⟨rfl, y7 HB8.out (qz HB8.out) HB10.out⟩
set_option maxHeartbeats 4000000 in
set_option maxRecDepth 100000 in
theorem Q3 (k : Nat) (n : Int) (ts : List (List S62)) (keep : List S62 → Option Bool) (g : Nat) (lb : Array Value) (w : World) (ht : z8.f k n = some ts) (hall : ∀ x ∈ ts, (keep x).isSome = true)
  (hlit : ∀ (W : World) (go gn : Nat) (A : Option Addr) (c : Nat) (x : List S62) (b : Bool), x ∈ ts → keep x = some b → W.heap[go]? = some (.cells #[.func (.func g) #[] lb] 56 (0, 0)) → W.heap[gn]? = some (.cells #[.int .i64 n] 3 (0, 0)) → Below w.heap.size w W → Kd.C k62 W A x.length x → x.length ≤ c →
   Calls Tryz.prog 80 (#[.slice A x.length c] ++ #[.pointer (some ⟨go, 0, none⟩), .pointer (some ⟨gn, 0, none⟩)]) W fun e w' => e = .returned (.bool (!b)) ∧ Below W.heap.size W w') :
  Calls Tryz.prog 42 #[.int .i64 n, .func (.func g) #[] lb] w fun e w' => ∃ v0_ : Value, e = .returned v0_ ∧ Kd.S (Kd.slice 62 k62) 32 w' w.heap.size (fun _ => True) v0_ (ts.filter fun x => (keep x).getD false) ∧ Below w.heap.size w w' := by
 have hkey : ∀ (gn go : Nat) (v : Value) (w3 w4 : World), Below w.heap.size w w3 → w.heap.size ≤ w3.heap.size → w3.heap[gn]? = some (.cells #[.int .i64 n] 3 (0, 0)) → w3.heap[go]? = some (.cells #[.func (.func g) #[] lb] 56 (0, 0)) → Kd.S (Kd.slice 62 k62) 32 w4 w3.heap.size (fun _ => True) v ts → Below w3.heap.size w3 w4 →
   Calls Tryz.prog 78 #[v, .func (.func 80) #[] #[.pointer (some ⟨go, 0, none⟩), .pointer (some ⟨gn, 0, none⟩)]] w4 fun e w' => ∃ v0_ : Value, e = .returned v0_ ∧ Kd.S (Kd.slice 62 k62) 32 w' w.heap.size (fun _ => True) v0_ (ts.filter fun x => (keep x).getD false) ∧ Below w.heap.size w w' := by
  intro gn go v w3 w4 h1 h2 h3 h4 h5 h6;obtain ⟨f, hR⟩ := h5
  have hd := DeleteFuncL f (fun x => !(keep x).getD false) 80 #[.pointer (some ⟨go, 0, none⟩), .pointer (some ⟨gn, 0, none⟩)] (enters_of Tryz.func80 (by kernel_rfl) rfl) v ts.zipIdx w3.heap.size w3 w4 (fun _ => True) hR h6 (qz h6) (fun W A c x hx hW _ hC hc => by
   have hx2 : x ∈ ts := (by rw [List.zipIdx_map_fst] at hx; exact hx);obtain ⟨b, hb⟩ := Option.isSome_iff_exists.1 (hall x hx2);have h7 := hlit W go gn A c x b hx2 hb ((hW.block _ (jI h4)).trans h4) ((hW.block _ (jI h3)).trans h3) (h1.trans (hW.mono h2)) hC hc;rw [show (keep x).getD false = b by rw [hb]; rfl];exact h7)
  refine hd.mono ?_;rintro e w' ⟨v0, rfl, hr, hb⟩;refine ⟨v0, rfl, ?_, h1.trans (hb.mono h2)⟩;have hs := S_of_tag hr (zip_nodup (fun x => !!(keep x).getD false) ts 0);rw [filter_zip (fun x => !!(keep x).getD false)] at hs;have e9 : (ts.filter fun x => !!(keep x).getD false) = ts.filter fun x => (keep x).getD false := (by simp);rw [e9] at hs;exact Kd.kN hs h2
 have HK := qa.mk hkey;have HT := qa.mk ht;clear hkey ht hall hlit;go_enter Tryz.func42, Tryz.ntmps42;go_wp2_with (first
  | ((with_reducible refine gd_ 2 ?_); refine jO 2 #[.int .i64 n] 3 ?_; intro gn hg w1 hbox hb; have HN1 := qa.mk hbox; have HB1 := qa.mk hb; clear hbox hb hg)
  | ((with_reducible refine gd_ 3 ?_); refine box_event ?hg (N := 3) ?hd (cs := #[.func (.func g) #[] lb]) (t := 56) ?hr ?_; (case hd => rfl); (case hg => rfl); (case hr => first | (go_simp; done) | (go_simp; rfl)); intro go hg w2 hbox hb; have HO2 := qa.mk hbox; have HB2 := qa.mk (y7 HB1.out (qz HB1.out) hb); have HN2 := qa.mk ((hb.block _ (jI HN1.out)).trans HN1.out); have hc2 : w2.cell? ⟨gn, 0, none⟩ = some (.int .i64 n) := (qh HN2.out 0).trans rfl; clear hbox hb hg)
  | (go_at_call 79; refine (z8.calls k n ts _ HT.out).mono ?_; rintro e w4 ⟨v4, rfl, ho4, hb4⟩; have HO4 := qa.mk ho4; have HB4 := qa.mk hb4; clear ho4 hb4)
  | (go_at_call 78; refine (HK.out gn go v4 w2 w4 HB2.out (qz HB2.out) HN2.out HO2.out HO4.out HB4.out).mono ?_; rintro e w8 ⟨v8, rfl, ho8, hb8⟩; have HO8 := qa.mk ho8; have HB8 := qa.mk hb8; clear ho8 hb8))
 go_ret;exact ⟨_, rfl, HO8.out, HB8.out⟩
/-- What is kept, if 'keep' tells it of all. -/
def kZ (keep : List S62 → Option Bool) (ts : List (List S62)) : Option (List (List S62)) := if (ts.all fun x => (keep x).isSome) = true then some (ts.filter fun x => (keep x).getD false) else none
theorem kP {keep : List S62 → Option Bool} {ts r : List (List S62)} (h : kZ keep ts = some r) : (∀ x ∈ ts, (keep x).isSome = true) ∧ r = ts.filter fun x => (keep x).getD false := by
 unfold kZ at h;by_cases ha : (ts.all fun x => (keep x).isSome) = true
 ·rw [if_pos ha] at h;rw [List.all_eq_true] at ha;exact ⟨ha, (Option.some.inj h).symm⟩
 ·rw [if_neg ha] at h;cases h

theorem clL_info : (Tryz.prog.info? 32).map (fun i => (i.zero, i.size, i.bytes)) = some (some (.slice none 0 0), 1, 24) := by kernel_rfl
set_option maxHeartbeats 4000000 in
set_option maxRecDepth 100000 in
theorem CloneL_calls (f : Nat → Nat) (v : Value) (zs : List (List S62 × Nat)) (base : Nat) (w0 w : World) (ok : Nat → Prop) (hR : Kd.R (Kd.tag f (Kd.slice 62 k62)) 32 w base ok v zs) (hB : Below base w0 w) (hbs : base ≤ w.heap.size) (hsm : zs.length ≤ 1048576) :
  Calls Tryz.prog 41 #[v] w fun e w' => ∃ v' : Value, e = .returned v' ∧ Kd.R (Kd.tag f (Kd.slice 62 k62)) 32 w' base (fun _ => True) v' zs ∧ Below base w0 w' := by
 obtain ⟨A0, c0, rfl, hc0⟩ : ∃ A c, v = .slice A zs.length c ∧ zs.length ≤ c := (by obtain ⟨A, c, h1, h2, _⟩ := Kd.ZG hR; exact ⟨A, c, h1, h2⟩);rcases A0 with _ | ad
 ·have hl : zs = [] := by
   rcases Nat.eq_zero_or_pos zs.length with h0 | h0
   ·exact List.eq_nil_of_length_eq_zero h0
   ·obtain ⟨ad, e, _⟩ := (Kd.qc hR).2.2.2.2 h0;cases e
  subst hl;have hcmp := fun w => Lib.run_eql_slice_nil (P := Tryz.prog) w 25 32 none 0 c0 0 0 Tryz.underlying25;have HB := qa.mk hB;show Calls Tryz.prog 41 #[.slice none 0 c0] w _;clear hR hc0 hB;go_enter Tryz.func41, Tryz.ntmps41;go_wp2;go_ret;exact ⟨.slice none 0 0, rfl, Kd.QN _ _ _ _ _, HB.out⟩
 ·obtain ⟨hok, inner, hown, hrep⟩ := hR;obtain ⟨A, c, e, _, hread⟩ := xI.reads (⟨inner, hown, zQ.kW hrep (fun p cs hp => Kd.M_bound _ hp)⟩ : xI ((Kd.tag f (Kd.slice 62 k62)).M w base _) 32 (Kd.tag f (Kd.slice 62 k62)).sz w base (.slice (some ad) zs.length c0) zs);injection e with e1 _ e3;subst e1; subst e3;have hcmp := fun w => Lib.run_eql_slice_nil (P := Tryz.prog) w 25 32 (some ad) zs.length c0 0 0 Tryz.underlying25;have HRD := qa.mk hread;have HB := qa.mk hB;clear hok hown hrep hread hB hc0;go_enter Tryz.func41, Tryz.ntmps41;go_wp2_with (first
   | ((with_reducible refine gd_ 5 ?_); refine Kd.J5 (Kd.tag f (Kd.slice 62 k62)) (w0 := w) w.heap.size 32 ?hg (N := 5) ?hd (xs := ([] : List (List S62 × Nat))) (inner := []) (ok := fun _ => True) (okp := fun _ => True) ?hr ?hp (fun _ hk => hk) trivial (Below.refl _ _) (Nat.le_refl _) (by simp) ?_; (case hd => rfl); (case hg => rfl); (case hr => first | (go_simp; done) | (go_simp; rfl)); (case hp => exact (zQ.none _ _)); intro v5 w5 ho5 hb5 hg_ hnew_; clear hg_; have HN5 := qa.mk (fun k_ (hk_ : k_ < w.heap.size) (e_ : some k_ = v5.ownBlock) => by obtain ⟨b_, eb_, hb_⟩ := hnew_; rw [eb_] at e_; injection e_ with e_; omega : ∀ k_, k_ < w.heap.size → some k_ ≠ v5.ownBlock); have HO5 := qa.mk (Kd.qy ho5 hbs); have HB5 := qa.mk hb5; clear ho5 hb5 hnew_)
   | ((with_reducible refine ga_ 5 6 ?_); at_builtin; refine Kd.xU (Kd.tag f (Kd.slice 62 k62)) (w0 := w0) base rfl (.tmp 5) (.tmp 6) 25 32 (.slice none 0 0) 24 rfl Tryz.underlying25 clL_info rfl Nat.one_pos (by omega) v5 [] zs _ _ _ (fun _ => True) (fun k_ => k_ < w.heap.size) rfl rfl ?aO (xz.kW HRD.out HB5.out (fun p_ cs_ hp_ => Kd.JM hp_ HB5.out)) (fun x_ cs_ hp_ => Kd.M_mono _ (fun k_ hk_ => hk_.2.2.1) hp_) (fun k_ hk_ => ⟨trivial, HN5.out k_ hk_⟩) (fun _ _ => trivial) ?aB ?aS ?aL ?_; (case aO => exact HO5.out); (case aB => exact HB.out.trans (HB5.out.mono hbs)); (case aS => exact Nat.le_trans hbs (qz HB5.out)); (case aL => simp only [List.length_nil]; omega); intro v7 w7 ho7 hb7 hg7 hat7; rw [List.nil_append] at ho7; have HO7 := qa.mk ho7; have HB7 := qa.mk hb7; clear ho7 hb7 hg7 hat7))
  go_ret;exact ⟨_, rfl, HO7.out, HB7.out⟩

/-- Is it the first one? -/
def zP.keep (k : Nat) (n : Int) (x : List S62) : Option Bool := (zA.f k n x).bind fun y => qH.f k y x
theorem zP.ZF (k : Nat) (n : Int) (x : List S62) : LeO (zP.keep k n x) (zP.keep (k + 1) n x) := LeO.bind (zA.mono _ _ _) (fun _ => qH.mono _ _ _)
def zP.f (k : Nat) (a0 : Int) : Option (List (List S62) × Bool) := (qw.f a0).bind fun b => if b = true then ((z8.f k a0).bind fun ts => if ts.length ≤ 1048576 then ((kZ (zP.keep k a0) ts).bind fun l => some (l, true)) else none) else some ([], false)
set_option maxHeartbeats 4000000 in
set_option maxRecDepth 100000 in
theorem zP.calls (k : Nat) (a0 : Int) (r1 : List (List S62)) (r2 : Bool) (w : World) (h : zP.f k a0 = some (r1, r2)) :
  Calls Tryz.prog 6 #[.int .i64 a0] w fun e w' => ∃ v0_ : Value, e = .returned (.tuple #[v0_, .bool r2]) ∧ Kd.S (Kd.slice 62 k62) 32 w' w.heap.size (fun _ => True) v0_ r1 ∧ Below w.heap.size w w' := by
 have H := h;unfold zP.f at H;clear h;obtain ⟨b, hb, H⟩ := Option.bind_eq_some_iff.mp H;cases b with
 | false =>
  rw [if_neg (by simp)] at H;injection H with H;injection H with e1 e2;subst e1; subst e2;have HT := qa.mk hb;clear hb;go_enter Tryz.func6, Tryz.ntmps6;go_wp2_with (go_at_call 40; refine (qw.calls a0 false _ HT.out).mono ?_; rintro e w5 ⟨rfl, hb⟩; have HB2 := qa.mk (show Below w.heap.size w w5 from by first | exact hb | exact zh.below hb); clear hb);go_ret2;exact ⟨_, rfl, Kd.S_nil _ _ _ _ _, HB2.out⟩
 | true =>
  rw [if_pos rfl] at H;obtain ⟨ts, ht, H⟩ := Option.bind_eq_some_iff.mp H;by_cases hsm : ts.length ≤ 1048576
  ·rw [if_pos hsm] at H;obtain ⟨l, hl, H⟩ := Option.bind_eq_some_iff.mp H;injection H with H;injection H with e1 e2;subst e1; subst e2;obtain ⟨hall, rfl⟩ := kP hl
   have hkey : ∀ W : World, Calls Tryz.prog 42 #[.int .i64 a0, .func (.func 43) #[] #[]] W fun e w' => ∃ v0_ : Value, e = .returned v0_ ∧ Kd.S (Kd.slice 62 k62) 32 w' W.heap.size (fun _ => True) v0_ (ts.filter fun x => (zP.keep k a0 x).getD false) ∧ Below W.heap.size W w' := by
    intro W;refine Q3 k a0 ts (zP.keep k a0) 43 #[] W ht hall ?_;intro W2 go gn A c x b _ hk hgo hgn _ hC hc;obtain ⟨y, hy, he⟩ := Option.bind_eq_some_iff.mp hk;exact kg k a0 x y b 43 #[] (enters_of Tryz.func43 (by kernel_rfl) rfl) W2 go gn A c hgo hgn hC hc (zA.calls k a0 A c x y W2 hC hc hy) he
   have hcl : ∀ (v : Value) (w5 w8 : World), Below w.heap.size w w5 → Kd.S (Kd.slice 62 k62) 32 w8 w5.heap.size (fun _ => True) v (ts.filter fun x => (zP.keep k a0 x).getD false) → Below w5.heap.size w5 w8 → Calls Tryz.prog 41 #[v] w8 fun e w' => ∃ v' : Value, e = .returned v' ∧ Kd.S (Kd.slice 62 k62) 32 w' w.heap.size (fun _ => True) v' (ts.filter fun x => (zP.keep k a0 x).getD false) ∧ Below w.heap.size w w' := by
    intro v w5 w8 h1 h2 h3;obtain ⟨f, hf⟩ := h2;have h4 := CloneL_calls f v (ts.filter fun x => (zP.keep k a0 x).getD false).zipIdx w.heap.size w w8 (fun _ => True) (Kd.qy hf (qz h1)) (y7 h1 (qz h1) h3) (Nat.le_trans (qz h1) (qz h3)) (by rw [List.length_zipIdx]; exact Nat.le_trans (List.length_filter_le ..) hsm);refine h4.mono ?_;rintro e w' ⟨v', rfl, h5, h6⟩;exact ⟨v', rfl, ⟨f, h5⟩, h6⟩
   have HT := qa.mk hb;have HK := qa.mk hkey;have HC := qa.mk hcl;clear hb ht hall hkey hl hcl hsm;go_enter Tryz.func6, Tryz.ntmps6;go_wp2_with (first
    | (go_at_call 40; refine (qw.calls a0 true _ HT.out).mono ?_; rintro e w5 ⟨rfl, hb⟩; have HB2 := qa.mk (show Below w.heap.size w w5 from by first | exact hb | exact zh.below hb); clear hb)
    | (go_at_call 42; refine (HK.out _).mono ?_; rintro e w8 ⟨v8, rfl, ho8, hb8⟩; have HO8 := qa.mk ho8; have HB8 := qa.mk hb8; clear ho8 hb8)
    | (go_at_call 41; refine (HC.out v8 w5 w8 HB2.out HO8.out HB8.out).mono ?_; rintro e w9 ⟨v9, rfl, ho9, hb9⟩; have HO9 := qa.mk ho9; have HB9 := qa.mk hb9; clear ho9 hb9))
   go_ret2;exact ⟨_, rfl, HO9.out, HB9.out⟩
  ·rw [if_neg hsm] at H;cases H

/-! ### yH: function 75 -/
def yH.f (a0 : Int) (a1 : Int) (a2 : Int) : Option (Bool) := if a0 ≥ a1 then (some (decide (a0 ≤ a2))) else (some false)
theorem yH.calls (a0 : Int) (a1 : Int) (a2 : Int) (r : Bool) (w : World) (h : yH.f a0 a1 a2 = some r) :
  Calls Tryz.prog 75 #[.int .i64 a0, .int .i64 a1, .int .i64 a2] w fun e w' => e = .returned (.bool r) ∧ zh w w' := by
 have H := h;unfold yH.f at H;clear h;replace H := ic_ H;rcases H with ⟨c4, H⟩ | ⟨c4, H⟩
 ·have aa : decide (a1 ≤ a0) = true := decide_eq_true c4;clear c4;obtain rfl := Option.some.inj H;go_enter Tryz.func75, Tryz.ntmps75;go_wp2;go_ret;exact dr_
 ·have aa : decide (a1 ≤ a0) = false := decide_eq_false c4;clear c4;obtain rfl := Option.some.inj H;go_enter Tryz.func75, Tryz.ntmps75;go_wp2;go_ret;exact dr_

/-! ### zR: function 44 -/
def zR.f (a0 : Int) : Option (Bool) := (yH.f a0 3 8).bind fun aa => (some aa)
theorem zR.calls (a0 : Int) (r : Bool) (w : World) (h : zR.f a0 = some r) :
  Calls Tryz.prog 44 #[.int .i64 a0] w fun e w' => e = .returned (.bool r) ∧ zh w w' := by
 have H := h;unfold zR.f at H;clear h;replace H := bd_ H;obtain ⟨aa, A2, H⟩ := H;obtain rfl := Option.some.inj H;go_enter Tryz.func44, Tryz.ntmps44;go_wp2_with (first | ((with_reducible refine gt_ 75 ?_); refine gc_ 75 4 (yH.calls a0 3 8 aa _ A2.out) ?_; rintro _ w' ⟨rfl, nd, rfl⟩; refine ⟨_, rfl, ?_⟩));go_ret;exact dr_

/-! ### xN: function 114 -/
def xN.f (a0 : Int) (a1 : Int) : Option (Int) := if a0 < a1 then (some a0) else (some a1)
theorem xN.calls (a0 : Int) (a1 : Int) (r : Int) (w : World) (h : xN.f a0 a1 = some r) :
  Calls Tryz.prog 114 #[.int .i64 a0, .int .i64 a1] w fun e w' => e = .returned (.int .i64 r) ∧ zh w w' := by
 have H := h;unfold xN.f at H;clear h;replace H := id_ H;rcases H with ⟨aa, H⟩ | ⟨aa, H⟩
 ·obtain rfl := Option.some.inj H;go_enter Tryz.func114, Tryz.ntmps114;go_wp2;go_ret;exact dr_
 ·obtain rfl := Option.some.inj H;go_enter Tryz.func114, Tryz.ntmps114;go_wp2;go_ret;exact dr_

/-! ### xX: function 115 -/
def xX.f (a0 : Int) (a1 : Int) : Option (Int) := if a0 > a1 then (some a0) else (some a1)
theorem xX.calls (a0 : Int) (a1 : Int) (r : Int) (w : World) (h : xX.f a0 a1 = some r) :
  Calls Tryz.prog 115 #[.int .i64 a0, .int .i64 a1] w fun e w' => e = .returned (.int .i64 r) ∧ zh w w' := by
 have H := h;unfold xX.f at H;clear h;replace H := ic_ H;rcases H with ⟨c3, H⟩ | ⟨c3, H⟩
 ·have aa : decide (a1 < a0) = true := decide_eq_true c3;clear c3;obtain rfl := Option.some.inj H;go_enter Tryz.func115, Tryz.ntmps115;go_wp2;go_ret;exact dr_
 ·have aa : decide (a1 < a0) = false := decide_eq_false c3;clear c3;obtain rfl := Option.some.inj H;go_enter Tryz.func115, Tryz.ntmps115;go_wp2;go_ret;exact dr_

/-! ### xG: function 92 -/
def xG.f (a0_0 : Int) (a0_1 : Int) (a1_0 : Int) (a1_1 : Int) : Option (Bool) := if a0_0 < a1_0 then (some true) else (if a0_0 = a1_0 then (some (decide (a0_1 < a1_1))) else (some false))
theorem xG.calls (a0_0 : Int) (a0_1 : Int) (a1_0 : Int) (a1_1 : Int) (r : Bool) (w : World) (h : xG.f a0_0 a0_1 a1_0 a1_1 = some r) :
  Calls Tryz.prog 92 #[.agg #[.int .i64 a0_0, .int .i64 a0_1], .agg #[.int .i64 a1_0, .int .i64 a1_1]] w fun e w' => e = .returned (.bool r) ∧ Below w.heap.size w w' := by
 have hu62 := Tryz.underlying62;have HB := qa.mk (Below.refl w.heap.size w);have H := h;unfold xG.f at H;clear h;replace H := id_ H;rcases H with ⟨aj, H⟩ | ⟨aj, H⟩
 ·obtain rfl := Option.some.inj H;go_enter Tryz.func92, Tryz.ntmps92;go_wp2_with (first | ((with_reducible refine gd_ 2 ?_); refine jO 2 #[.int .i64 a0_0, .int .i64 a0_1] 62 ?_; intro af hg w4 hbox hb; have aa := qa.mk hbox; have ag := gz_ w hg; replace HB := bs_ hb; clear hb hbox hg) | ((with_reducible refine gd_ 3 ?_); refine jO 3 #[.int .i64 a1_0, .int .i64 a1_1] 62 ?_; intro ah hg w5 hbox hb; have ae := qa.mk hbox; have ai := gz_ w hg; have ab := nb_ aa hg; have ac := wV aa hg; replace aa := bb_ aa hb; replace HB := bs_ hb; clear hb hbox hg; have bj := ab.out; have bk := ac.out; obtain ⟨a6, a7, a8, a9⟩ := vB aa; obtain ⟨ba, bb, bc, bd⟩ := vB ae));go_ret;exact er_
 ·replace H := ie_ H;rcases H with ⟨ak, al, H⟩ | ⟨ak, al, H⟩
  ·obtain rfl := Option.some.inj H;go_enter Tryz.func92, Tryz.ntmps92;go_wp2_with (first | ((with_reducible refine gd_ 2 ?_); refine jO 2 #[.int .i64 a0_0, .int .i64 a0_1] 62 ?_; intro af hg w10 hbox hb; have aa := qa.mk hbox; have ag := gz_ w hg; replace HB := bs_ hb; clear hb hbox hg) | ((with_reducible refine gd_ 3 ?_); refine jO 3 #[.int .i64 a1_0, .int .i64 a1_1] 62 ?_; intro ah hg w11 hbox hb; have ae := qa.mk hbox; have ai := gz_ w hg; have ab := nb_ aa hg; have ac := wV aa hg; replace aa := bb_ aa hb; replace HB := bs_ hb; clear hb hbox hg; have bf := ab.out; have bg := ac.out; obtain ⟨an, ao, ap, aq⟩ := vB aa; obtain ⟨ar, au, av, aw⟩ := vB ae));go_ret;exact er_
  ·obtain rfl := Option.some.inj H;go_enter Tryz.func92, Tryz.ntmps92;go_wp2_with (first | ((with_reducible refine gd_ 2 ?_); refine jO 2 #[.int .i64 a0_0, .int .i64 a0_1] 62 ?_; intro af hg w15 hbox hb; have aa := qa.mk hbox; have ag := gz_ w hg; replace HB := bs_ hb; clear hb hbox hg) | ((with_reducible refine gd_ 3 ?_); refine jO 3 #[.int .i64 a1_0, .int .i64 a1_1] 62 ?_; intro ah hg w16 hbox hb; have ae := qa.mk hbox; have ai := gz_ w hg; have ab := nb_ aa hg; have ac := wV aa hg; replace aa := bb_ aa hb; replace HB := bs_ hb; clear hb hbox hg; have bh := ab.out; have bi := ac.out; obtain ⟨ax, ay, az, a1⟩ := vB aa; obtain ⟨a2, a3, a4, a5⟩ := vB ae));go_ret;exact er_

end Go.Proofs.YtgblginphicacaaGreat.PFnClassesTold
